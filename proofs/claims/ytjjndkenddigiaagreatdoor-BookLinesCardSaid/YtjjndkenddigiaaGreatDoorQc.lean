/- Lemmas: the program and the reference walked, plain laws. -/
import Derived.Test.YtjjndkenddigiaaGreatDoorQb
namespace Go.T
open Go Go.RowKit Go.Lib
def UB : El UInt8 := El.mk' 1 (fun x => [Ty.int .u8 (x.toNat : Int)]) (fun _ => rfl) (fun _ => ⟨rfl, rfl, rfl⟩)
theorem dens_bytes (w : World) (M : Tags) : ∀ l : Byt, dens w M (l.flatMap UB.tys) (Lib.byteCells l)
  | [] => trivial
  | x :: l => ⟨rfl, dens_bytes w M l⟩
theorem bytes_of {w : World} {M : Tags} : ∀ {l : Byt} {cs : List Value}, dens w M (l.flatMap UB.tys) cs → cs = Lib.byteCells l
  | [], [], _ => rfl
  | x :: l, v :: cs, ⟨h, hs⟩ => by
    obtain rfl : v = .int .u8 (x.toNat : Int) := h
    rw [bytes_of (l := l) hs]; rfl
  | _ :: _, [], h => h.elim
section
variable {P : Program} {fr : Fr} {ops : Array Oper} {A : As} {rest : List Oper} {K : As → List (As × Fx) → Prop} {d : Nat} {t ty' : TypeId} {p : String} {e : Array Edge} [T : Tab P] {x y : Operand} {a b : Byt} {tg : Nat}
theorem run_append_str {w : World} {M : Tags} {st su ty : TypeId} {ti ts te : TI} {v : Value} {el : Nat} (wf : Wf w M) (hT : T.tab[st]? = some ti) (hk : ti.k = .slice el) (hE : T.tab[el]? = some te) (hz : (P.info? el).bind (·.zero) = some (.int .u8 0)) (hs1 : te.size = 1) (hb1 : te.bytes = 1)
    (hU : T.tab[su]? = some ts) (hku : ts.k = .string) (hx : dRow UB el tg a w M v) (hlen : a.length + b.length ≤ 140737488355328) :
    ∃ v' w' M', (Builtin.append_ #[st, su] ty #[v, .string (bs b)]).run P w = .ok v' w' ∧ Wf w' M' ∧ Le (· ∈ ([] : List Nat)) (· ∈ [tg]) w M w' M' ∧ dRow UB el tg (a ++ b) w' M' v' ∧ (v = .slice none 0 0 → b = [] → v' = .slice none 0 0) := by
  obtain ⟨_, D, _, hD, hkd, _⟩ := tab_info hT
  rw [hk] at hkd
  cases D <;> simp only [TK.of, reduceCtorEq, TK.slice.injEq] at hkd
  subst hkd
  rename_i el
  obtain ⟨i, _, hi, _, _, hsz, hby, hze⟩ := tab_info hE
  have hiz : i.zero = some (.int .u8 0) := by rw [hi] at hz; exact hz
  obtain ⟨cs, hown, hd, hM⟩ := hx
  have hu := tab_string hU hku
  have hown : w.ownsRow 0 el 1 v a.length cs := hown
  have hbl : (bs b).size = b.length := bs_size b
  have e1 : i.size = 1 := hsz.trans hs1
  have e2 : i.bytes = 1 := hby.trans hb1
  have hmax : a.length + (bs b).size ≤ maxLen := by rw [hbl]; unfold maxLen; omega
  have fin : ∀ v' w', (Builtin.append_ #[st, su] ty #[v, .string (bs b)]).run P w = .ok v' w' → w'.ownsRow 0 el 1 v' (a.length + (bs b).size) (cs ++ strCells (bs b)) → w.grownBy w' v.ownBlock → (v' = .slice none 0 0 ↔ v = .slice none 0 0 ∧ (bs b).size = 0) → (∀ g, v'.ownBlock = some g → g < w.heap.size → M g = some tg) →
      ∃ v' w' M', (Builtin.append_ #[st, su] ty #[v, .string (bs b)]).run P w = .ok v' w' ∧ Wf w' M' ∧ Le (· ∈ ([] : List Nat)) (· ∈ [tg]) w M w' M' ∧ dRow UB el tg (a ++ b) w' M' v' ∧ (v = .slice none 0 0 → b = [] → v' = .slice none 0 0) := by
    intro v' w' hrun h1 h2 h4 h3
    have hb : ∀ g, v'.ownBlock = some g → g < w'.heap.size := by
      intro g hg
      rcases h1.2 with ⟨rfl, _⟩ | ⟨g', cap, cur, rfl, _, hh, _⟩
      · simp [Value.ownBlock] at hg
      · simp [Value.ownBlock] at hg; subst hg; exact (Array.getElem?_eq_some_iff.1 hh).1
    have hle := retag_le (t := tg) (g := v'.ownBlock) h2.size h2.os h2.tape h2.output h3 (fun g hlt hne => h2.block g hlt (fun e => hne (hM g e.symm))) wf
    refine ⟨v', w', retag M tg v'.ownBlock, hrun, retag_wf wf h2.size hb (wf.amb.le hle), hle, ⟨cs ++ strCells (bs b), ?_, ?_, fun g hg => by simp [retag, hg]⟩, fun e1 e2 => h4.2 ⟨e1, by rw [hbl, e2]; rfl⟩⟩
    · rw [List.length_append, ← hbl]; exact h1
    · rw [List.flatMap_append]
      refine dens_app (dens_mono hle (by rw [UB.flat_deps]; intro _ h; cases h) (by rw [UB.flat_cdeps]; intro _ h; cases h) hd) ?_
      rw [Lib.strCells_eq, bs_list]
      exact dens_bytes _ _ b
  rcases hown.2 with ⟨rfl, h0⟩ | ⟨g, cap, cur, hv, hg0, hh, hnc, hcm, hcs, htk⟩
  · obtain ⟨v', w', hrun, h1, h2, h5⟩ := run_append_own_string (P := P) (w := w) w.heap.size st su ty el i hD hu hi hiz e1 e2 (.slice none 0 0) a.length cs ⟨hown.1, .inl ⟨rfl, h0⟩⟩ (bs b) hmax (by rw [hbl]; omega) (Nat.le_refl _)
    refine fin v' w' hrun ⟨h1.1, h1.2.imp id fun ⟨g, cap, cur, a1, a2, a3⟩ => ⟨g, cap, cur, a1, Nat.zero_le _, a3⟩⟩ h2 h5 fun g hg hlt => ?_
    rcases h1.2 with ⟨rfl, _⟩ | ⟨g', cap, cur, rfl, hge, _⟩
    · simp [Value.ownBlock] at hg
    · simp [Value.ownBlock] at hg; omega
  · obtain ⟨v', w', hrun, h1, h2, h5⟩ := run_append_own_string (P := P) (w := w) 0 st su ty el i hD hu hi hiz e1 e2 v a.length cs hown (bs b) hmax (by rw [hbl]; omega) (Nat.zero_le _)
    refine fin v' w' hrun h1 h2 h5 fun q hq hlt => ?_
    subst hv
    by_cases hroom : a.length + (bs b).size ≤ cap
    · have := run_append_room_string (P := P) (w := w) st su ty el i hD hu hi e1 g a.length cap cur hh (bs b) hroom (by rw [hcs]; omega)
      rw [hrun] at this
      injection this with e3 e4
      subst e3
      simp [Value.ownBlock] at hq
      exact hM q (by simp [Value.ownBlock, hq])
    · have hcell : ∀ j u, cs[j]? = some u → w.cell? ((⟨g, 0, none⟩ : Addr).add j) = some u := by
        intro j u hj
        have hj' : cur[j]? = some u := by
          have : (cur.toList.take (a.length * 1))[j]? = some u := by rw [htk]; exact hj
          rw [List.getElem?_take] at this
          split at this
          · simpa using this
          · cases this
        rw [Addr.add_lit]
        simp [World.cell?, hh, hj']
      have := run_append_grow_string (P := P) (w := w) st su ty el i (.int .u8 0) hD hu hi hiz ⟨g, 0, none⟩ a.length cap cs (by rw [e1]; exact hown.1) hcell (bs b) (by omega) (by rw [hbl]; omega) (by
        have := nextslicecap_le (need := a.length + (bs b).size) (old := cap) (by omega)
        rw [e2]; omega)
      rw [hrun] at this
      injection this with e3 e4
      subst e3
      simp [Value.ownBlock] at hq
      omega
def dRn (el tg : Nat) (l : Byt) (w : World) (M : Tags) (v : Value) : Prop := dRow UB el tg l w M v ∧ (l = [] → v = .slice none 0 0)
def Ty.rn (el tg : Nat) (l : Byt) : Ty := { den := dRn el tg l, deps := [tg], cdeps := [tg], mono := fun le hk hs h => ⟨(Ty.row UB el tg l).mono le hk hs h.1, h.2⟩, one := true, isOne := fun _ h => (Ty.row UB el tg l).isOne rfl h.1 }
theorem Ty.nil_rn {el tg : Nat} : (Ty.ex (.slice none 0 0)).Sub (Ty.rn el tg []) := fun w M v h => ⟨Ty.nil_row w M v h, fun _ => h⟩
theorem Ty.rn_eq {el tg : Nat} {l m : Byt} (h : l = m) : (Ty.rn el tg l).Sub (Ty.rn el tg m) := h ▸ Ty.sub_refl _
variable {ti ts te : TI} {el : Nat}
theorem r_appendStr (hx : A.op fr x = .rn el tg a) (hy : A.op fr y = .str (bs b)) (h1 : 1 ≤ tg) (hp : fr.pass.contains tg = false) {st su : TypeId} (hT : T.tab[st]? = some ti) (hk : ti.k = .slice el) (hE : T.tab[el]? = some te) (hz : (P.info? el).bind (·.zero) = some (.int .u8 0)) (hs1 : te.size = 1) (hb1 : te.bytes = 1)
    (hU : T.tab[su]? = some ts) (hku : ts.k = .string) (hlen : a.length + b.length ≤ 140737488355328)
    (h : TOps P fr ops rest (A.after { d := some d, ty := .rn el tg (a ++ b), K := [tg], rs := opR x ++ opR y }) fun A' l' => K A' ((A, { d := some d, ty := .rn el tg (a ++ b), K := [tg], rs := opR x ++ opR y }) :: l')) :
    TOps P fr ops (⟨some d, .call ⟨.builtin .append, #[x, y], #[st, su]⟩, t, p, e, none⟩ :: rest) A K := by
  refine ⟨_, opT_mem (f := { d := some d, ty := .rn el tg (a ++ b), K := [tg], rs := opR x ++ opR y }) rfl rfl (by simp) (by simp) (by simp at hp ⊢; exact ⟨h1, hp⟩) fun ac w M wf hr _ => ?_, h⟩
  obtain ⟨hdx, hdy⟩ := op2 hr
  rw [hx] at hdx; rw [hy] at hdy
  have ey : ac.eval y = .string (bs b) := hdy
  obtain ⟨v', w', M', hrun, h1', h2', h3', h4'⟩ := run_append_str (P := P) (ty := t) wf hT hk hE hz hs1 hb1 hU hku hdx.1 hlen
  exact ⟨v', w', by simp [execOp, resolve, invoke, builtin, ey, hrun], M', h1', h2', ⟨h3', fun h => h4' (hdx.2 (List.append_eq_nil_iff.1 h).1) (List.append_eq_nil_iff.1 h).2⟩, by simp⟩
def dUd (el tg : Nat) (l : Byt) (w : World) (M : Tags) (v : Value) : Prop := ∃ u, dRn el tg l w M u ∧ v = (match u with | .slice a _ _ => .pointer a | _ => undef)
def Ty.ud (el tg : Nat) (l : Byt) : Ty := { den := dUd el tg l, deps := [tg], cdeps := [tg], mono := fun le hk hs ⟨u, h, e⟩ => ⟨u, (Ty.rn el tg l).mono le hk hs h, e⟩ }
omit T in
theorem r_uData (hx : A.op fr x = .rn el tg a) {st : TypeId}
    (h : TOps P fr ops rest (A.set d (.ud el tg a)) fun A' l' => K A' ((A, { d := some d, ty := .ud el tg a, rs := opR x }) :: l')) :
    TOps P fr ops (⟨some d, .call ⟨.builtin .unsafeSliceData, #[x], #[st]⟩, t, p, e, none⟩ :: rest) A K :=
  tops_pure (opT_pure rfl rfl fun ac w M _ hr _ => by
    have hdx := op_den (x := x) (fun _ h => h) hr
    rw [hx] at hdx
    by_cases h0 : a = []
    · have ex : ac.eval x = .slice none 0 0 := hdx.2 h0
      exact ⟨.pointer none, by simp [execOp, resolve, invoke, builtin, ex, run_unsafeSliceData_nil], _, hdx, by rw [ex]⟩
    · obtain ⟨cs, hown, _⟩ := hdx.1
      rcases hown.2 with ⟨_, hn⟩ | ⟨g, cap, cur, ev, _, _, hnc, _⟩
      · exact absurd (List.eq_nil_of_length_eq_zero hn) h0
      · have hc : cap ≠ 0 := by have := List.length_pos_iff.2 h0; omega
        exact ⟨.pointer (some ⟨g, 0, none⟩), by simp [execOp, resolve, invoke, builtin, ev, run_unsafeSliceData_row _ _ _ _ _ _ hc], _, hdx, by rw [ev]⟩) h
theorem freeze_le {w : World} {M : Tags} {g : Nat} {n : Nat} (wf : Wf w M) (hb : M g = some tg) : Wf (w.freeze ⟨g, 0, none⟩ n) M ∧ Le (· ∈ ([] : List Nat)) (· ∈ [tg]) w M (w.freeze ⟨g, 0, none⟩ n) M := by
  have hsz : (w.freeze ⟨g, 0, none⟩ n).heap.size = w.heap.size := by unfold World.freeze; split <;> simp
  have hne : ∀ b, b ≠ g → (w.freeze ⟨g, 0, none⟩ n).heap[b]? = w.heap[b]? := fun b hb => by
    unfold World.freeze; split
    · rfl
    · simp only [Array.getElem?_modify]; rw [if_neg (fun e => hb e.symm)]
  have hos : (w.freeze ⟨g, 0, none⟩ n).os = w.os ∧ (w.freeze ⟨g, 0, none⟩ n).tape = w.tape ∧ (w.freeze ⟨g, 0, none⟩ n).output = w.output := by unfold World.freeze; split <;> exact ⟨rfl, rfl, rfl⟩
  have le : Le (· ∈ ([] : List Nat)) (· ∈ [tg]) w M (w.freeze ⟨g, 0, none⟩ n) M :=
    ⟨by omega, hos.1, hos.2.1, hos.2.2, fun b _ hm => ⟨hm, hne b fun e => by rw [e, hb] at hm; cases hm⟩, fun b t hm hk => ⟨hm, fun _ => hne b fun e => hk (by rw [e, hb] at hm; injection hm with hm; simp [hm])⟩⟩
  exact ⟨⟨fun b t h => by rw [hsz]; exact wf.lt b t h, wf.inj, wf.amb.le le⟩, le⟩
theorem r_uString {k : IntKind} {pt it : TypeId} {ep : Nat} (hk : k = .i64) (hx : A.op fr x = .ud el tg a) (hy : A.op fr y = .int k a.length) (hT : T.tab[pt]? = some ti) (hkp : ti.k = .ptr el) (hE : P.cellsOf el = 1) (h1 : 1 ≤ tg) (hp : fr.pass.contains tg = false) (hl : a.length ≤ 9223372036854775807)
    (h : TOps P fr ops rest (A.after { d := some d, ty := .str (bs a), K := [tg], rs := opR x ++ opR y }) fun A' l' => K A' ((A, { d := some d, ty := .str (bs a), K := [tg], rs := opR x ++ opR y }) :: l')) :
    TOps P fr ops (⟨some d, .call ⟨.builtin .unsafeString, #[x, y], #[pt, it]⟩, t, p, e, none⟩ :: rest) A K := by
  subst hk
  refine ⟨_, opT_mem (f := { d := some d, ty := .str (bs a), K := [tg], rs := opR x ++ opR y }) rfl rfl (by simp) (by simp) (by simp at hp ⊢; exact ⟨h1, hp⟩) fun ac w M wf hr _ => ?_, h⟩
  obtain ⟨hdx, hdy⟩ := op2 hr
  rw [hx] at hdx; rw [hy] at hdy
  have ey : ac.eval y = .int .i64 a.length := hdy
  obtain ⟨u, hu, ex⟩ := hdx
  obtain ⟨_, D, _, hD, hkd, _⟩ := tab_info hT
  rw [hkp] at hkd
  cases D <;> simp only [TK.of, reduceCtorEq, TK.ptr.injEq] at hkd
  subst hkd
  by_cases h0 : a = []
  · subst h0
    have := hu.2 rfl
    subst this
    refine ⟨.string .empty, w, ?_, M, wf, ⟨Nat.le_refl _, rfl, rfl, rfl, fun _ _ h => ⟨h, rfl⟩, fun _ _ h _ => ⟨h, fun _ => rfl⟩⟩, rfl, by simp⟩
    have ey' : ac.eval y = .int .i64 0 := ey
    simp [execOp, resolve, invoke, builtin, ex, ey', run_unsafeString_none]
  · obtain ⟨cs, hown, hd, hM⟩ := hu.1
    rcases hown.2 with ⟨_, hn⟩ | ⟨g, cap, cur, ev, _, hh, hnc, _, hcs, htk⟩
    · exact absurd (List.eq_nil_of_length_eq_zero hn) h0
    · subst ev
      obtain ⟨g1, g2⟩ := freeze_le (n := a.length) wf (hM g rfl)
      refine ⟨.string (bs a), _, ?_, M, g1, g2, rfl, by simp⟩
      have hcell : ∀ j q, a[j]? = some q → w.cell? ((⟨g, 0, none⟩ : Addr).add j) = some (.int .u8 q.toNat) := by
        intro j q hj
        have h2 : cs[j]? = some (.int .u8 q.toNat) := by rw [bytes_of hd]; simp [Lib.byteCells, hj]
        have : (cur.toList.take (a.length * UB.size))[j]? = some (.int .u8 q.toNat) := by rw [htk]; exact h2
        rw [List.getElem?_take] at this
        split at this
        · rw [Addr.add_lit]; simp [World.cell?, hh]; simpa using this
        · cases this
      have := run_unsafeString_row (P := P) w pt it t _ hD hE g cur.size (by simp [World.shape?, hh]) a h0 (by rw [hcs]; show a.length ≤ cap * 1; omega) hl hcell
      simp [execOp, resolve, invoke, builtin, ex, ey, this, bs]
theorem r_len_rn {st : TypeId} (hx : A.op fr x = .rn el tg a) (hT : T.tab[st]? = some ti) (hk : ti.k = .slice el)
    (h : TOps P fr ops rest (A.set d (.int .i64 a.length)) fun A' l' => K A' ((A, { d := some d, ty := .int .i64 a.length, rs := opR x }) :: l')) :
    TOps P fr ops (⟨some d, .call ⟨.builtin .len, #[x], #[st]⟩, t, p, e, none⟩ :: rest) A K :=
  tops_pure (opT_pure rfl rfl fun ac w M _ hrd _ => by
    have hdx := op_den (x := x) (fun _ h => h) hrd
    rw [hx] at hdx
    obtain ⟨_, D, _, hD, hkd, _⟩ := tab_info hT
    rw [hk] at hkd
    cases D <;> simp only [TK.of, reduceCtorEq, TK.slice.injEq] at hkd
    obtain ⟨cs, hown, _⟩ := hdx.1
    refine ⟨.int .i64 a.length, ?_, rfl⟩
    rcases hown.2 with ⟨ev, hn⟩ | ⟨g, cap, cur, ev, _⟩
    · simp [execOp, resolve, invoke, builtin, ev, Builtin.len_, run_underlying hD, goInt, hn]
    · simp [execOp, resolve, invoke, builtin, ev, Builtin.len_, run_underlying hD, goInt]) h
end
def dSelf (tg : Nat) (_ : World) (M : Tags) (v : Value) : Prop := v = .pointer none ∨ ∃ b, M b = some tg ∧ v = .pointer (some ⟨b, 0, none⟩)
def Ty.self (tg : Nat) : Ty := ⟨dSelf tg, [tg], [], fun le hk _ h => h.imp id fun ⟨b, h, e⟩ => ⟨b, (le.own b tg h (hk tg (by simp))).1, e⟩, true, fun _ h => by rcases h with rfl | ⟨_, _, rfl⟩ <;> rfl⟩
theorem Ty.nil_self {tg : Nat} : (Ty.ex (.pointer none)).Sub (Ty.self tg) := fun _ _ _ h => .inl h
theorem cv_self {ρ : List (Nat × Nat)} {a b : Nat} (h : (a, b) ∈ ρ) : Conv ρ (.self a) (.self b) := fun _ _ _ _ _ _ hre hv => hv.imp id fun ⟨k, hk, e⟩ => ⟨k, hre.some _ h k hk, e⟩
theorem cv_rn {ρ : List (Nat × Nat)} {el a b : Nat} {l m : Byt} (h : (a, b) ∈ ρ) (e : l = m) : Conv ρ (.rn el a l) (.rn el b m) := fun w M M' v wf wf' hre hv => by
  subst e; exact ⟨cv_row h w M M' v wf wf' hre hv.1, hv.2⟩
abbrev bldT (tg tr : Nat) (l : Byt) : List Ty := [Ty.self tg, Ty.rn 5 tr l]
theorem cc_bld {ρ : List (Nat × Nat)} {a b ar br T : Nat} {l m : Byt} (h : (a, b) ∈ ρ) (h' : (ar, br) ∈ ρ) (e : l = m) : ConvC ρ a (.cells T (bldT a ar l)) b (.cells T (bldT b br m)) := cc_cells h (cv_cons (cv_cons cv_nil (cv_rn h' e)) (cv_self h))
theorem bld_new {tg tr T : Nat} : (Cont.cells T [Ty.ex (.pointer none), Ty.ex (.slice none 0 0)]).Sub (Cont.cells T (bldT tg tr [])) := Cont.sub_subs ⟨Ty.nil_self, Ty.nil_rn, trivial⟩
end Go.T

namespace Go.Proofs.YtjjndkenddigiaaGreatDoor
open Go Go.T Go.RowKit Go.Shelf
theorem set0 {w : World} {M : Tags} {b T : Nat} {p q v : Value} (wf : Wf w M) (hb : M b = some 1000) (hh : w.heap[b]? = some (.cells #[p, q] T (0, 0))) :
    Wf (w.setCell ⟨b, 0, none⟩ v) M ∧ Le (· ∈ [1000]) (· ∈ ([] : List Nat)) w M (w.setCell ⟨b, 0, none⟩ v) M ∧ (w.setCell ⟨b, 0, none⟩ v).heap[b]? = some (.cells #[v, q] T (0, 0)) := by
  have hsz : (w.setCell ⟨b, 0, none⟩ v).heap.size = w.heap.size := by simp [World.setCell]
  have hne : ∀ c, c ≠ b → (w.setCell ⟨b, 0, none⟩ v).heap[c]? = w.heap[c]? := fun c hc => by
    simp only [World.setCell, Array.getElem?_modify]; rw [if_neg (fun e => hc e.symm)]
  have le : Le (· ∈ [1000]) (· ∈ ([] : List Nat)) w M (w.setCell ⟨b, 0, none⟩ v) M :=
    ⟨by omega, rfl, rfl, rfl, fun c _ hm => ⟨hm, hne c fun e => by rw [e, hb] at hm; cases hm⟩, fun c t hm _ => ⟨hm, fun hs => hne c fun e => hs (by rw [e, hb] at hm; injection hm with hm; simp [hm])⟩⟩
  refine ⟨⟨fun c t h => by rw [hsz]; exact wf.lt c t h, wf.inj, wf.amb.le le⟩, le, ?_⟩
  simp only [World.setCell, Array.getElem?_modify, hh]
  simp
theorem k_copyCheck (l : Byt) : CtrG Tryz.prog 124 [1000, 1001] [(1000, Cont.cells 114 (bldT 1000 1001 l))] [Ty.ptr 1000 0] [(1000, Cont.cells 114 (bldT 1000 1001 l))] (Ty.tup []) := by
  refine ⟨⟨_, Tryz.func124, by kernel_rfl, by kernel_rfl⟩, fun w M vs wf hd hpre => ?_⟩
  match vs, hd with
  | [v], ⟨hv, _⟩ =>
    obtain ⟨b, hb, rfl⟩ := hv
    obtain ⟨b', cs, hb', hh, hds⟩ := hpre _ List.mem_cons_self
    obtain rfl := wf.inj b b' 999 (by omega) hb hb'
    obtain ⟨p, q, rfl, hp, hq⟩ : ∃ p q, cs = #[p, q] ∧ dSelf 1000 w M p ∧ (Ty.rn 5 1001 l).den w M q := by
      obtain ⟨l2⟩ := cs
      match l2, hds with
      | [p, q], ⟨h1, h2, _⟩ => exact ⟨p, q, rfl, h1, h2⟩
    have hc0 : w.cell? ⟨b, 0, none⟩ = some p := by simp [World.cell?, hh]
    rcases hp with rfl | ⟨b2, hb2, rfl⟩
    · refine (Any.Builder_copyCheck_fresh ly_Lays_n240 ly_Builder_X72 b w hc0 (by simp [World.shape?, hh]; rfl) (by simp [World.frozen?, hh])).mono ?_
      rintro e w' ⟨rfl, rfl⟩
      obtain ⟨g1, g2, g3⟩ := set0 (v := .pointer (some ⟨b, 0, none⟩)) wf hb hh
      refine ⟨_, M, rfl, g1, g2.weaken (fun t h => by rw [List.mem_singleton.1 h]; omega) (fun t h => by cases h), ⟨#[], rfl, trivial⟩, fun x hx => ?_⟩
      rw [List.mem_singleton.1 hx]
      exact ⟨b, _, hb, g3, .inr ⟨b, hb, rfl⟩, (Ty.rn 5 1001 l).mono g2 (fun _ _ h => by cases h) (fun t ht h => by simp [Ty.rn] at ht; subst ht; simp at h) hq, trivial⟩
    · obtain rfl := wf.inj b b2 999 (by omega) hb hb2
      refine (Any.Builder_copyCheck_used ly_Lays_n240 ly_Builder_X72 b w hc0).mono ?_
      rintro e w' ⟨rfl, rfl⟩
      exact ⟨_, M, rfl, wf, (Le.refl _ _ _ _), ⟨#[], rfl, trivial⟩, hpre⟩
end Go.Proofs.YtjjndkenddigiaaGreatDoor

namespace Go.Proofs.YtjjndkenddigiaaGreatDoor
open Go Go.T
set_option maxHeartbeats 2000000
attribute [local irreducible] dInt dBool dSl dPp dPtr dAgg dTup dClo dAny dEx dStr dGd dCells dVec dVs dRow dOp nth Tri Into TOps Ctr bodyPost Exit.then Exit.inBlock Code.wp Code.wpIn dPa dArr dMp dMap CtrG keepPost iterPost bodyPostM roundQ
attribute [local irreducible] dRn dUd dSelf
set_option maxRecDepth 100000 in
theorem k_WriteString (l s : Byt) (h : l.length + s.length ≤ 1000000) : CtrG Tryz.prog 70 [1000] [(1000, Cont.cells 114 (bldT 1000 1001 l))] [Ty.ptr 1000 0, Ty.str (bs s)] [(1000, Cont.cells 114 (bldT 1000 1001 (l ++ s)))] (Ty.tup [Ty.int .i64 s.length, Ty.ex .nilIface]) := by
  refine fnG_intro Tryz.func70 rfl (by decide) Tryz.ntmps70 (by exact Nat.le_of_ble_eq_true rfl) fun w0 M0 => ?_
  refine t_seq ?_
  refine t_region ?_
  refine asI rfl ?_
  refine asX rfl ?_
  refine r_nil ?_
  refine i_then ?_
  refine t_seq ?_
  refine t_region ?_
  refine mvO rfl ?_
  refine r_callG [(1000, 1000), (1001, 1001)] [] [(1000, Cont.cells 114 (bldT 1000 1001 l))] (k_copyCheck l) rfl rfl (by repeat (first | exact cv_nil | refine cv_cons ?_ ?_ | exact cv_ptr List.mem_cons_self)) (pre_cons (a := 1000) (b := 1000) (by exact List.mem_cons_self) rfl (cc_bld (by exact List.mem_cons_self) (List.mem_cons_of_mem _ List.mem_cons_self) rfl) pre_nil) (post_cons (a := 1000) (b := 1000) (by exact List.mem_cons_self) rfl (cc_bld (by exact List.mem_cons_self) (List.mem_cons_of_mem _ List.mem_cons_self) rfl) post_nil) (cv_pub rfl rfl) ?_
  refine r_nil ?_
  refine i_then ?_
  refine t_seq ?_
  refine t_region ?_
  refine mvO rfl ?_
  refine mvO rfl ?_
  refine r_nilCheck_ptr rfl ?_
  refine r_field_ptr rfl rfl rfl rfl rfl (by decide) ?_
  refine r_load_ptr rfl rfl (by decide) rfl rfl rfl ?_
  refine mvS' rfl ?_
  refine r_appendStr rfl rfl (by decide) rfl rfl rfl rfl (by kernel_rfl) rfl rfl rfl rfl (by omega) ?_
  refine r_nilCheck_ptr rfl ?_
  refine r_field_ptr rfl rfl rfl rfl rfl (by decide) ?_
  refine r_store1 rfl rfl (by decide) rfl rfl rfl rfl (by exact Nat.le_of_ble_eq_true rfl) rfl rfl (by exact rfl) ?_
  refine r_nil ?_
  refine i_then ?_
  refine t_seq ?_
  refine t_region ?_
  refine mvS' rfl ?_
  refine r_lenS rfl rfl rfl ?_
  refine asI rfl ?_
  refine asX rfl ?_
  refine r_nil ?_
  refine i_then ?_
  refine t_ret ?_
  refine g_ret2 [1000, 1001] rfl rfl rfl (by decide) ?_ ?_ ?_
  exact rc_cons rfl (cc_bld (by decide) (by decide) rfl) rc_nil
  all_goals exact rg_cv (cv_pub rfl rfl)
set_option maxRecDepth 100000 in
theorem k_String (l : Byt) (h : l.length ≤ 1000000) : CtrG Tryz.prog 74 [1000] [(1000, Cont.cells 114 (bldT 1000 1001 l))] [Ty.ptr 1000 0] [] (Ty.str (bs l)) := by
  refine fnG_intro Tryz.func74 rfl (by decide) Tryz.ntmps74 (by exact Nat.le_of_ble_eq_true rfl) fun w0 M0 => ?_
  refine t_seq ?_
  refine t_region ?_
  refine asS' rfl ?_
  refine r_nil ?_
  refine i_then ?_
  refine t_seq ?_
  refine t_draw mixed rfl ?_
  refine mvO rfl ?_
  refine r_nilCheck_ptr rfl ?_
  refine r_field_ptr rfl rfl rfl rfl rfl (by decide) ?_
  refine r_load_ptr rfl rfl (by decide) rfl rfl rfl ?_
  refine r_uData rfl ?_
  refine mvO rfl ?_
  refine r_nilCheck_ptr rfl ?_
  refine r_field_ptr rfl rfl rfl rfl rfl (by decide) ?_
  refine r_load_ptr rfl rfl (by decide) rfl rfl rfl ?_
  refine r_len_rn rfl rfl rfl ?_
  refine r_uString (ep := 0) rfl rfl rfl rfl rfl (by kernel_rfl) (by decide) rfl (by omega) ?_
  refine asS' rfl ?_
  refine r_nil ?_
  refine ⟨by kernel_rfl, ?_⟩
  refine i_then ?_
  refine t_ret ?_
  refine g_ret1 [1000] rfl rfl (by decide) (by repeat (exact rc_nil)) ?_
  all_goals exact rg_cv (cv_pub rfl rfl)
end Go.Proofs.YtjjndkenddigiaaGreatDoor

namespace Go.Proofs.YtjjndkenddigiaaGreatDoor
open Go Go.T
def pgs (L n : Nat) : Nat := (n - 1) / L + 1
def endN (L n i : Nat) : Nat := if i + 1 < pgs L n then (i + 1) * L else n
def frmN (L n i : Nat) : Nat := if i = 0 then 0 else endN L n (i - 1)
def mulN (L k : Nat) : Nat := (k + 1) * L
theorem mulN_succ (L k : Nat) : mulN L (k + 1) = mulN L k + L := by unfold mulN; rw [Nat.succ_mul]
theorem mulN_zero (L : Nat) : mulN L 0 = L := by simp [mulN]
def mulL (L k : Nat) : List Int := (List.range k).map fun i => ((mulN L i : Nat) : Int)
theorem mulL_succ (L k : Nat) : mulL L (k + 1) = mulL L k ++ [((mulN L k : Nat) : Int)] := by unfold mulL; rw [List.range_succ, List.map_append]; rfl
theorem mulL_len (L k : Nat) : (mulL L k).length = k := by simp [mulL]
def endsL (L n : Nat) : List Int := mulL L ((n - 1) / L) ++ [(n : Int)]
theorem endsL_len (L n : Nat) : (endsL L n).length = pgs L n := by simp [endsL, mulL_len, pgs]
theorem ends_eq (L n : Nat) : endsL L n = (List.range (pgs L n)).map fun i => ((endN L n i : Nat) : Int) := by
  unfold endsL pgs
  rw [List.range_succ, List.map_append]
  congr 1
  · unfold mulL
    apply List.map_congr_left
    intro i hi
    rw [List.mem_range] at hi
    unfold endN pgs
    rw [if_pos (by omega)]; rfl
  · simp [endN, pgs]
theorem nth_endsL {L n i : Nat} (h : i < pgs L n) : nth (endsL L n) i = ((endN L n i : Nat) : Int) := by
  rw [ends_eq]
  unfold nth
  rw [List.getD_eq_getElem?_getD, List.getElem?_map, List.getElem?_range h]; rfl
theorem six_cases {L : Nat} (h : 1 ≤ L ∧ L ≤ 6) : L = 1 ∨ L = 2 ∨ L = 3 ∨ L = 4 ∨ L = 5 ∨ L = 6 := by omega
theorem mul_go {L n k : Nat} (hL : 1 ≤ L ∧ L ≤ 6) (h : mulN L k < n) : k + 1 ≤ (n - 1) / L := by
  unfold mulN at h
  rcases six_cases hL with rfl | rfl | rfl | rfl | rfl | rfl <;> omega
theorem mul_end {L n k : Nat} (hL : 1 ≤ L ∧ L ≤ 6) (hk : k ≤ (n - 1) / L) (h : ¬ mulN L k < n) : k = (n - 1) / L := by
  unfold mulN at h
  rcases six_cases hL with rfl | rfl | rfl | rfl | rfl | rfl <;> omega
theorem pgs_le {L n : Nat} (hL : 1 ≤ L ∧ L ≤ 6) (hn : n ≤ 12) : pgs L n ≤ 12 := by
  unfold pgs
  rcases six_cases hL with rfl | rfl | rfl | rfl | rfl | rfl <;> omega
theorem end_le {L n i : Nat} (hL : 1 ≤ L ∧ L ≤ 6) (hi : i < pgs L n) : endN L n i ≤ n ∧ frmN L n i ≤ endN L n i := by
  unfold frmN endN
  unfold pgs at *
  rcases six_cases hL with rfl | rfl | rfl | rfl | rfl | rfl <;> (split <;> split <;> (try split) <;> omega)
theorem frmN_zero (L n : Nat) : frmN L n 0 = 0 := rfl
theorem frm_succ (L n i : Nat) : frmN L n (i + 1) = endN L n i := by simp [frmN]
def rowsB (f : BForm) (rows : List BRow) : Byt := (rows.map (rowB f)).flatten
theorem rowsB_snoc (f : BForm) (rows : List BRow) (r : BRow) : rowsB f (rows ++ [r]) = rowsB f rows ++ rowB f r := by simp [rowsB]
def topB (f : BForm) (rows : List BRow) (L i : Nat) : Byt := if i = 0 then [] else 43 :: lineB f (rows.take (frmN L rows.length i))
def midB (rows : List BRow) (L i : Nat) : List BRow := (rows.take (endN L rows.length i)).drop (frmN L rows.length i)
def pageB (f : BForm) (rows : List BRow) (L i : Nat) : Byt := topB f rows L i ++ rowsB f (midB rows L i) ++ 61 :: lineB f (rows.take (endN L rows.length i))
def prtB (f : BForm) (rows : List BRow) (L i : Nat) : Byt := ((List.range i).map (pageB f rows L)).flatten
def printB (b : Book) : Byt := prtB b.form b.rows b.form.lines.toNat (pgs b.form.lines.toNat b.rows.length)
theorem prtB_succ (f : BForm) (rows : List BRow) (L i : Nat) : prtB f rows L (i + 1) = prtB f rows L i ++ pageB f rows L i := by
  unfold prtB; rw [List.range_succ, List.map_append, List.flatten_append]; simp
theorem lineB_len {f : BForm} {rows : List BRow} (hf : FormOk f) (hs : SmallR rows) (hl : rows.length ≤ 1000) : (lineB f rows).length ≤ 170 := by
  have h := lnP_len hf hs hl (Nat.le_refl _)
  have e : lineB f rows = lnP f rows f.widths.length ++ [10] := rfl
  rw [e, List.length_append, List.length_singleton]
  have := hf.n2; omega
theorem rowB_len {f : BForm} {r : BRow} (hf : FormOk f) (hr : RowOk f r) : (rowB f r).length ≤ 170 := by
  have h := rwP_len hf hr (Nat.le_refl _)
  have e : rowB f r = rwP f r f.widths.length ++ [letB f r, 10] := by simp [rowB, rwP]
  rw [e, List.length_append]
  have := hf.n2; simp; omega
theorem rowsB_len {f : BForm} (hf : FormOk f) : ∀ {rows : List BRow}, (∀ r ∈ rows, RowOk f r) → (rowsB f rows).length ≤ 170 * rows.length
  | [], _ => by simp [rowsB]
  | r :: rows, h => by
    have e : rowsB f (r :: rows) = rowB f r ++ rowsB f rows := by simp [rowsB]
    rw [e, List.length_append, List.length_cons]
    have := rowB_len hf (h r List.mem_cons_self)
    have := rowsB_len hf (rows := rows) fun x hx => h x (List.mem_cons_of_mem _ hx)
    omega
theorem book_small {b : Book} (hb : BookOk b) : SmallR b.rows := fun r hr => small_of hb.form (hb.row r hr)
theorem take_small {rows : List BRow} (h : SmallR rows) (k : Nat) : SmallR (rows.take k) := fun r hr => h r (List.mem_of_mem_take hr)
theorem mid_mem {rows : List BRow} {L i : Nat} {r : BRow} (h : r ∈ midB rows L i) : r ∈ rows := List.mem_of_mem_take (List.mem_of_mem_drop h)
theorem mid_len {b : Book} {L i : Nat} (hb : BookOk b) : (midB b.rows L i).length ≤ 12 := by unfold midB; rw [List.length_drop, List.length_take]; have := hb.few; omega
theorem page_len {b : Book} (hb : BookOk b) (i : Nat) : (topB b.form b.rows b.form.lines.toNat i).length ≤ 171 ∧ (pageB b.form b.rows b.form.lines.toNat i).length ≤ 2500 := by
  have hs := book_small hb
  have h1 : ∀ k, (lineB b.form (b.rows.take k)).length ≤ 170 := fun k => lineB_len hb.form (take_small hs k) (by rw [List.length_take]; have := hb.few; omega)
  have h2 : (topB b.form b.rows b.form.lines.toNat i).length ≤ 171 := by
    unfold topB; split
    · simp
    · rw [List.length_cons]; have := h1 (frmN b.form.lines.toNat b.rows.length i); omega
  refine ⟨h2, ?_⟩
  have h3 := rowsB_len hb.form (rows := midB b.rows b.form.lines.toNat i) fun r hr => hb.row r (List.mem_of_mem_take (List.mem_of_mem_drop hr))
  have h4 : (midB b.rows b.form.lines.toNat i).length ≤ 12 := by unfold midB; rw [List.length_drop, List.length_take]; have := hb.few; omega
  have h5 := h1 (endN b.form.lines.toNat b.rows.length i)
  unfold pageB
  rw [List.length_append, List.length_append, List.length_cons]
  omega
theorem prt_len {b : Book} (hb : BookOk b) : ∀ i, (prtB b.form b.rows b.form.lines.toNat i).length ≤ 2500 * i
  | 0 => by simp [prtB]
  | i + 1 => by
    rw [prtB_succ, List.length_append]
    have := prt_len hb i
    have := (page_len hb i).2
    omega
theorem footL_len (b : Book) : (((endsL b.form.lines.toNat b.rows.length).map fun n => (sumL (b.rows.take n.toNat)).take b.form.widths.length)).length = pgs b.form.lines.toNat b.rows.length := by rw [List.length_map, endsL_len]
def footL (b : Book) : List (List Int) := (endsL b.form.lines.toNat b.rows.length).map fun n => (sumL (b.rows.take n.toNat)).take b.form.widths.length
theorem foot_take {b : Book} {i : Nat} (h : i < pgs b.form.lines.toNat b.rows.length) : (footL b).take (i + 1) = (footL b).take i ++ [(sumL (b.rows.take (endN b.form.lines.toNat b.rows.length i))).take b.form.widths.length] := by
  have hl : i < (footL b).length := by rw [footL, footL_len]; exact h
  rw [take_nth hl]
  congr 2
  unfold footL
  rw [nth, List.getD_eq_getElem?_getD, ends_eq, List.map_map, List.getElem?_map, List.getElem?_range h]
  simp
def printV (b : Book) : Byt := if bokY b = 0 then printB b else []
def footV (b : Book) : List (List Int) := if bokY b = 0 then footL b else []
end Go.Proofs.YtjjndkenddigiaaGreatDoor

namespace Go.Proofs.YtjjndkenddigiaaGreatDoor
open Go Go.T
set_option maxHeartbeats 2000000
attribute [local irreducible] dInt dBool dSl dPp dPtr dAgg dTup dClo dAny dEx dStr dGd dCells dVec dVs dRow dOp nth Tri Into TOps Ctr bodyPost Exit.then Exit.inBlock Code.wp Code.wpIn dPa dArr dMp dMap CtrG keepPost iterPost bodyPostM roundQ
attribute [local irreducible] dRn dUd dSelf mulN endN frmN pgs
set_option maxRecDepth 100000 in
theorem c_ends (b : Book) (hf : FormOk b.form) (hn : b.rows.length ≤ 12) : Ctr Tryz.prog 69 [bokT b] (Ty.sl I64 (endsL b.form.lines.toNat b.rows.length)) := by
  refine fn_intro Tryz.func69 rfl (by decide) Tryz.ntmps69 (by exact Nat.le_of_ble_eq_true rfl) fun w0 M0 => ?_
  have hl1 := hf.l1
  have hl2 := hf.l2
  have hL : 1 ≤ b.form.lines.toNat ∧ b.form.lines.toNat ≤ 6 := ⟨by omega, by omega⟩
  refine t_seq ?_
  refine t_region ?_
  refine r_box_agg rfl ?_
  refine asX rfl ?_
  refine r_nil ?_
  refine i_then ?_
  refine t_seq ?_
  refine t_region ?_
  refine asX rfl ?_
  refine r_nil ?_
  refine i_then ?_
  refine t_seq ?_
  refine t_seq ?_
  refine t_region ?_
  refine r_field_pp rfl rfl rfl rfl rfl (by decide) ?_
  refine r_field_pp rfl rfl rfl rfl rfl (by decide) ?_
  refine r_load_pp rfl rfl rfl rfl ?_
  refine asI rfl ?_
  refine r_nil ?_
  refine i_then ?_
  refine t_block ?_
  refine t_loop (fun (k : {k : Nat // k ≤ (b.rows.length - 1) / b.form.lines.toNat}) => live [(1, Ty.pp (bokTys b)), (3, Ty.row I64 3 22 (mulL b.form.lines.toNat k.1)), (4, Ty.int .i64 ((mulN b.form.lines.toNat k.1 : Nat) : Int))] []) (fun k => (b.rows.length - 1) / b.form.lines.toNat + 1 - k.1) (⟨0, Nat.zero_le _⟩) ?_ fun k => ?_
  · (refine Ent.mk' ?_ ?_ <;> (repeat' (first | exact allSub_zero | exact allTags_nil | refine allSub_succ' ?_ (Ty.sub_any _) | refine allSub_succ' ?_ (Ty.sub_refl _) | refine allSub_succ' ?_ Ty.nil_row | refine allSub_succ' ?_ ?_)))
    all_goals exact Ty.sub_int (by rw [mulN_zero]; omega)
  ·
    have hks := mulN_succ b.form.lines.toNat k.1
    have hkl := mulL_len b.form.lines.toNat k.1
    refine t_seq ?_
    refine t_seq ?_
    refine t_region ?_
    refine mvI rfl ?_
    refine r_field_pp rfl rfl rfl rfl rfl (by decide) ?_
    refine r_load_pp rfl rfl rfl rfl ?_
    refine r_len rfl rfl rfl ?_
    refine r_bin rfl rfl rfl ?_
    refine r_nil ?_
    refine i_then ?_
    refine t_cond_dec rfl (fun hc1 => ?_) (fun hc1 => ?_)
    ·
      refine t_skip ?_
      refine i_then ?_
      refine t_seq ?_
      refine t_block ?_
      have hgo := mul_go hL (k := k.1) (n := b.rows.length) (by omega)
      have hpl := pgs_le hL hn
      have hkk : k.1 + 1 ≤ 12 := by unfold pgs at hpl; omega
      refine t_region ?_
      refine mvR rfl ?_
      refine mvI rfl ?_
      refine r_buildSlice (E := I64) (xs := [_]) rfl rfl rfl rfl rfl (by decide) (by decide) (by repeat (first | exact (Parts.nil : Parts _ _ [] _) | (show Parts _ _ ((_, _) :: _) _; apply Parts.one; (· exact (rfl : _ = Ty.int _ _)); (· exact rfl)))) (by exact rfl) rfl ?_
      refine r_append rfl rfl (by decide) rfl rfl rfl rfl rfl rfl (by decide) (by (simp <;> omega)) (by (simp <;> omega)) ?_
      refine asR rfl ?_
      refine r_nil ?_
      refine i_block ?_
      refine i_then ?_
      refine t_region ?_
      refine mvI rfl ?_
      refine r_field_pp rfl rfl rfl rfl rfl (by decide) ?_
      refine r_field_pp rfl rfl rfl rfl rfl (by decide) ?_
      refine r_load_pp rfl rfl rfl rfl ?_
      refine r_add rfl rfl (by omega) (by omega) ?_
      refine asI rfl ?_
      refine r_nil ?_
      refine i_round (⟨k.1 + 1, hgo⟩) ?_ (by show (b.rows.length - 1) / b.form.lines.toNat + 1 - (k.1 + 1) < (b.rows.length - 1) / b.form.lines.toNat + 1 - k.1; have := k.2; omega)
      (refine Ent.mk' ?_ ?_ <;> (repeat' (first | exact allSub_zero | exact allTags_nil | refine allSub_succ' ?_ (Ty.sub_any _) | refine allSub_succ' ?_ (Ty.sub_refl _) | refine allSub_succ' ?_ ?_)))
      all_goals skip
      all_goals first | exact Ty.sub_row (mulL_succ _ _).symm | exact Ty.sub_int (by show _ = ((mulN b.form.lines.toNat (k.1 + 1) : Nat) : Int); omega)
    ·
      refine t_exit ?_
      refine i_then_exit ?_
      refine i_then_exit ?_
      refine i_block_exit rfl ?_
      refine i_then ?_
      refine t_seq ?_
      have hke := mul_end hL k.2 (by omega)
      have hpl := pgs_le hL hn
      have hkk : k.1 ≤ 12 := by unfold pgs at hpl; omega
      refine t_as (s := 3) rfl (Ty.sub_row (congrArg (mulL b.form.lines.toNat) hke)) ?_
      refine t_region ?_
      refine mvR rfl ?_
      refine r_field_pp rfl rfl rfl rfl rfl (by decide) ?_
      refine r_load_pp rfl rfl rfl rfl ?_
      refine r_len rfl rfl rfl ?_
      refine r_buildSlice (E := I64) (xs := [_]) rfl rfl rfl rfl rfl (by decide) (by decide) (by repeat (first | exact (Parts.nil : Parts _ _ [] _) | (show Parts _ _ ((_, _) :: _) _; apply Parts.one; (· exact (rfl : _ = Ty.int _ _)); (· exact rfl)))) (by exact rfl) rfl ?_
      refine r_append rfl rfl (by decide) rfl rfl rfl rfl rfl rfl (by decide) (by rw [mulL_len]; simp; omega) (by rw [mulL_len]; simp; omega) ?_
      refine asR rfl ?_
      refine r_nil ?_
      refine i_then ?_
      refine t_ret ?_
      refine i_rp1 rfl rfl ?_
      all_goals exact ret_row (by decide)
set_option maxRecDepth 100000 in
theorem c_Foots (b : Book) (hb : ∀ r ∈ b.rows, Rng r.nums) : Ctr Tryz.prog 17 [bokT b] (Ty.tup [Ty.sl RowE (footV b), Ty.int .i64 (bokY b)]) := by
  refine fn_intro Tryz.func17 rfl (by decide) Tryz.ntmps17 (by exact Nat.le_of_ble_eq_true rfl) fun w0 M0 => ?_
  refine t_seq ?_
  refine t_region ?_
  refine r_box_agg rfl ?_
  refine asX rfl ?_
  refine asI rfl ?_
  refine r_nil ?_
  refine i_then ?_
  refine t_seq ?_
  refine t_seq ?_
  refine t_region ?_
  refine r_load_ppN rfl rfl rfl (by exact Nat.le_of_ble_eq_true rfl) ?_
  refine r_call (c_Check b hb) rfl rfl rfl rfl rfl ?_
  refine asI rfl ?_
  refine r_nil ?_
  refine i_then ?_
  refine t_seq ?_
  refine t_region ?_
  refine mvI rfl ?_
  refine r_bin rfl rfl rfl ?_
  refine r_nil ?_
  refine i_then ?_
  refine t_cond_ndec rfl (fun hc1 => ?_) (fun hc1 => ?_)
  ·
    refine t_seq ?_
    refine t_region ?_
    refine mvI rfl ?_
    refine asX rfl ?_
    refine asI rfl ?_
    refine r_nil ?_
    refine i_then ?_
    refine t_ret ?_
    refine i_then_ret ?_
    refine i_rp2 rfl rfl rfl ?_ ?_
    all_goals first | exact ret_refl rfl rfl | skip
    all_goals exact ret_nil_eq (by unfold footV; rw [if_neg (by simpa using hc1)])
  ·
    refine t_skip ?_
    refine i_then ?_
    refine t_seq ?_
    refine t_region ?_
    refine asX rfl ?_
    refine r_nil ?_
    refine i_then ?_
    refine t_seq ?_
    refine t_seq ?_
    have hy : bokY b = 0 := by simpa using hc1
    have hok := bokY_zero.1 hy
    have hl1 := hok.form.l1
    have hl2 := hok.form.l2
    have hfew := hok.few
    have hn := hok.form.n2
    have hL : 1 ≤ b.form.lines.toNat ∧ b.form.lines.toNat ≤ 6 := ⟨by omega, by omega⟩
    have hsm := book_small hok
    have hpl := pgs_le hL hfew
    have hel := endsL_len b.form.lines.toNat b.rows.length
    refine t_region ?_
    refine r_load_ppN rfl rfl rfl (by exact Nat.le_of_ble_eq_true rfl) ?_
    refine r_call (c_ends b hok.form hfew) rfl rfl rfl rfl rfl ?_
    refine r_len rfl rfl rfl ?_
    refine mvI rfl ?_
    refine r_nil ?_
    refine i_then ?_
    refine t_block ?_
    refine t_loop (fun (i : {i : Nat // i ≤ pgs b.form.lines.toNat b.rows.length}) => live [(1, Ty.pp (bokTys b)), (5, Ty.row RowE 22 35 ((footL b).take i.1)), (15, Ty.sl I64 (endsL b.form.lines.toNat b.rows.length)), (16, Ty.int .i64 (endsL b.form.lines.toNat b.rows.length).length), (17, Ty.int .i64 (i.1 : Nat))] []) (fun i => pgs b.form.lines.toNat b.rows.length - i.1) (⟨0, Nat.zero_le _⟩) ?_ fun i => ?_
    · (refine Ent.mk' ?_ ?_ <;> (repeat' (first | exact allSub_zero | exact allTags_nil | refine allSub_succ' ?_ (Ty.sub_any _) | refine allSub_succ' ?_ (Ty.sub_refl _) | refine allSub_succ' ?_ Ty.nil_row)))
      all_goals exact Ty.nil_row
    ·
      refine t_seq ?_
      refine t_region ?_
      refine r_bin rfl rfl rfl ?_
      refine r_nil ?_
      refine i_then ?_
      refine t_seq ?_
      refine t_cond_dec rfl (fun hc2 => ?_) (fun hc2 => ?_)
      ·
        refine t_skip ?_
        refine i_then ?_
        refine t_seq ?_
        refine t_block ?_
        refine t_seq ?_
        refine t_region ?_
        refine r_index_slN rfl rfl rfl rfl rfl rfl (by omega) ?_
        refine r_load_pp rfl rfl rfl rfl ?_
        refine asI rfl ?_
        refine r_nil ?_
        refine i_then ?_
        refine t_seq ?_
        have hi : i.1 < pgs b.form.lines.toNat b.rows.length := by omega
        have he := end_le hL hi
        have hfl : ((footL b).take i.1).length ≤ 12 := by rw [List.length_take]; omega
        refine t_as (s := 7) rfl (Ty.sub_int (nth_endsL hi)) ?_
        refine t_region ?_
        refine r_field_pp rfl rfl rfl rfl rfl (by decide) ?_
        refine r_load_pp rfl rfl rfl rfl ?_
        refine mvI rfl ?_
        refine r_cut_hi rfl rfl rfl rfl rfl rfl (by omega) ?_
        refine r_call (c_total (b.rows.take (endN b.form.lines.toNat b.rows.length i.1)) (take_small hsm _) (by rw [List.length_take]; omega)) rfl rfl rfl rfl rfl ?_
        refine r_alloc rfl (by exact List.cons_ne_nil _ _) rfl ?_
        refine r_store_arr rfl rfl (by decide) rfl rfl rfl rfl ?_
        refine r_nil ?_
        refine i_then ?_
        refine t_pub (tg := 9) [(8, Ty.pa I64 (sumL (b.rows.take (endN b.form.lines.toNat b.rows.length i.1))) 0)] (by decide) rfl ⟨pub_pa rfl rfl (by decide), trivial⟩ ?_
        refine t_region ?_
        refine mvR rfl ?_
        refine r_field_pp rfl rfl rfl rfl rfl (by decide) ?_
        refine r_field_pp rfl rfl rfl rfl rfl (by decide) ?_
        refine r_load_pp rfl rfl rfl rfl ?_
        refine r_len rfl rfl rfl ?_
        refine r_cut_pa rfl rfl rfl rfl rfl (by exact Nat.le_of_ble_eq_true rfl) (by omega) (by show _ ≤ 4; omega) ?_
        refine r_call (c_Clone_int _ (by rw [List.length_take]; omega)) rfl rfl rfl rfl rfl ?_
        refine r_buildSlice (E := RowE) (xs := [_]) rfl rfl rfl rfl rfl (by decide) (by decide) (by repeat (first | exact (Parts.nil : Parts _ _ [] _) | (show Parts _ _ ((_, _) :: _) _; apply Parts.one; (· exact (rfl : _ = Ty.sl _ _)); (· exact rfl)))) (by exact rfl) rfl ?_
        refine r_append rfl rfl (by decide) rfl rfl rfl rfl rfl rfl (by decide) (by simp; omega) (by simp; omega) ?_
        refine asR rfl ?_
        refine r_nil ?_
        refine i_block ?_
        refine i_then ?_
        refine t_region ?_
        refine r_add rfl rfl (by omega) (by omega) ?_
        refine mvI rfl ?_
        refine r_nil ?_
        refine i_round (⟨i.1 + 1, by omega⟩) ?_ (by show pgs b.form.lines.toNat b.rows.length - (i.1 + 1) < pgs b.form.lines.toNat b.rows.length - i.1; omega)
        (refine Ent.mk' ?_ ?_ <;> (repeat' (first | exact allSub_zero | exact allTags_nil | refine allSub_succ' ?_ (Ty.sub_any _) | refine allSub_succ' ?_ (Ty.sub_refl _) | refine allSub_succ' ?_ ?_)))
        all_goals skip
        all_goals exact Ty.sub_row (foot_take hi).symm
      ·
        refine t_exit ?_
        refine i_then_exit ?_
        refine i_then_exit ?_
        refine i_block_exit rfl ?_
        refine i_then ?_
        refine t_seq ?_
        refine t_as (s := 5) rfl (Ty.sub_row (show (footL b).take i.1 = footV b by unfold footV; rw [if_pos hy]; exact List.take_of_length_le (by rw [footL, footL_len]; omega))) ?_
        refine t_region ?_
        refine mvR rfl ?_
        refine asR rfl ?_
        refine asI rfl ?_
        refine r_nil ?_
        refine i_then ?_
        refine t_ret ?_
        refine i_rp2 rfl rfl rfl ?_ ?_
        all_goals first | exact ret_row (by decide) | skip
        all_goals exact ret_eq rfl rfl (congrArg (Ty.int .i64) hy.symm)
set_option maxRecDepth 100000 in
theorem c_Print (b : Book) (hb : ∀ r ∈ b.rows, Rng r.nums) : Ctr Tryz.prog 16 [bokT b] (Ty.tup [Ty.str (bs (printV b)), Ty.int .i64 (bokY b)]) := by
  refine fn_intro Tryz.func16 rfl (by decide) Tryz.ntmps16 (by exact Nat.le_of_ble_eq_true rfl) fun w0 M0 => ?_
  refine t_seq ?_
  refine t_region ?_
  refine r_box_agg rfl ?_
  refine asS' rfl ?_
  refine asI rfl ?_
  refine r_nil ?_
  refine i_then ?_
  refine t_seq ?_
  refine t_seq ?_
  refine t_region ?_
  refine r_load_ppN rfl rfl rfl (by exact Nat.le_of_ble_eq_true rfl) ?_
  refine r_call (c_Check b hb) rfl rfl rfl rfl rfl ?_
  refine asI rfl ?_
  refine r_nil ?_
  refine i_then ?_
  refine t_seq ?_
  refine t_region ?_
  refine mvI rfl ?_
  refine r_bin rfl rfl rfl ?_
  refine r_nil ?_
  refine i_then ?_
  refine t_cond_ndec rfl (fun hc1 => ?_) (fun hc1 => ?_)
  ·
    refine t_seq ?_
    refine t_region ?_
    refine mvI rfl ?_
    refine asS' rfl ?_
    refine asI rfl ?_
    refine r_nil ?_
    refine i_then ?_
    refine t_ret ?_
    refine i_then_ret ?_
    refine i_rp2 rfl rfl rfl ?_ ?_
    all_goals first | exact ret_refl rfl rfl | skip
    all_goals exact ret_eq rfl rfl (congrArg Ty.str (by unfold printV; rw [if_neg (by simpa using hc1)]; rfl))
  ·
    refine t_skip ?_
    refine i_then ?_
    refine t_seq ?_
    refine t_region ?_
    refine r_alloc rfl (by exact List.cons_ne_nil _ _) rfl ?_
    refine r_nil ?_
    refine i_then ?_
    refine t_seq ?_
    have hy : bokY b = 0 := by simpa using hc1
    have hok := bokY_zero.1 hy
    have hl1 := hok.form.l1
    have hl2 := hok.form.l2
    have hfew := hok.few
    have hL : 1 ≤ b.form.lines.toNat ∧ b.form.lines.toNat ≤ 6 := ⟨by omega, by omega⟩
    have hsm := book_small hok
    have hpl := pgs_le hL hfew
    have hel := endsL_len b.form.lines.toNat b.rows.length
    refine t_asC (tg := 6) (D := Cont.cells 114 (bldT 6 500 [])) rfl bld_new ?_
    refine t_region ?_
    refine asI rfl ?_
    refine r_nil ?_
    refine i_then ?_
    refine t_seq ?_
    refine t_seq ?_
    refine t_region ?_
    refine r_load_ppN rfl rfl rfl (by exact Nat.le_of_ble_eq_true rfl) ?_
    refine r_call (c_ends b hok.form hfew) rfl rfl rfl rfl rfl ?_
    refine r_len rfl rfl rfl ?_
    refine mvI rfl ?_
    refine r_nil ?_
    refine i_then ?_
    refine t_block ?_
    refine t_loop (fun (i : {i : Nat // i ≤ pgs b.form.lines.toNat b.rows.length}) => live [(1, Ty.pp (bokTys b)), (5, Ty.ptr 6 0), (6, Ty.int .i64 ((frmN b.form.lines.toNat b.rows.length i.1 : Nat) : Int)), (17, Ty.sl I64 (endsL b.form.lines.toNat b.rows.length)), (18, Ty.int .i64 (endsL b.form.lines.toNat b.rows.length).length), (19, Ty.int .i64 (i.1 : Nat))] [(6, Cont.cells 114 (bldT 6 500 (prtB b.form b.rows b.form.lines.toNat i.1)))]) (fun i => pgs b.form.lines.toNat b.rows.length - i.1) (⟨0, Nat.zero_le _⟩) ?_ fun i => ?_
    · (refine Ent.mk' ?_ ?_ <;> (repeat' (first | exact allSub_zero | exact allTags_nil | refine allSub_succ' ?_ (Ty.sub_any _) | refine allSub_succ' ?_ (Ty.sub_refl _) | refine allTags_cons rfl (Cont.sub_refl _) ?_ | refine allSub_succ' ?_ ?_)))
      all_goals exact Ty.sub_int (by rw [frmN_zero]; rfl)
    ·
      refine t_seq ?_
      refine t_region ?_
      refine r_bin rfl rfl rfl ?_
      refine r_nil ?_
      refine i_then ?_
      refine t_seq ?_
      refine t_cond_dec rfl (fun hc2 => ?_) (fun hc2 => ?_)
      ·
        refine t_skip ?_
        refine i_then ?_
        refine t_seq ?_
        refine t_block ?_
        refine t_seq ?_
        have hi : i.1 < pgs b.form.lines.toNat b.rows.length := by omega
        have he := end_le hL hi
        have hpt := prt_len hok i.1
        have hpg := page_len hok i.1
        refine t_region ?_
        refine mvI rfl ?_
        refine r_index_slN rfl rfl rfl rfl rfl rfl (by omega) ?_
        refine r_load_pp rfl rfl rfl rfl ?_
        refine asI rfl ?_
        refine asI rfl ?_
        refine r_nil ?_
        refine i_then ?_
        refine t_join (J := live [(1, Ty.pp (bokTys b)), (5, Ty.ptr 6 0), (6, Ty.int .i64 ((frmN b.form.lines.toNat b.rows.length i.1 : Nat) : Int)), (8, Ty.int .i64 ((endN b.form.lines.toNat b.rows.length i.1 : Nat) : Int)), (17, Ty.sl I64 (endsL b.form.lines.toNat b.rows.length)), (18, Ty.int .i64 (endsL b.form.lines.toNat b.rows.length).length), (19, Ty.int .i64 (i.1 : Nat))] [(6, Cont.cells 114 (bldT 6 500 (prtB b.form b.rows b.form.lines.toNat i.1 ++ topB b.form b.rows b.form.lines.toNat i.1)))]) ?_ ?_
        ·
          refine t_seq ?_
          refine t_as (s := 8) rfl (Ty.sub_int (nth_endsL hi)) ?_
          refine t_region ?_
          refine mvI rfl ?_
          refine r_bin rfl rfl rfl ?_
          refine r_nil ?_
          refine i_then ?_
          refine t_cond_dec rfl (fun hc3 => ?_) (fun hc3 => ?_)
          ·
            refine t_draw mixed rfl ?_
            refine r_field_pp rfl rfl rfl rfl rfl (by decide) ?_
            refine r_load_ppN rfl rfl rfl (by exact Nat.le_of_ble_eq_true rfl) ?_
            refine r_field_pp rfl rfl rfl rfl rfl (by decide) ?_
            refine r_load_pp rfl rfl rfl rfl ?_
            refine mvI rfl ?_
            refine r_cut_hi rfl rfl rfl rfl rfl rfl (by omega) ?_
            refine r_call (c_total (b.rows.take (frmN b.form.lines.toNat b.rows.length i.1)) (take_small hsm _) (by rw [List.length_take]; omega)) rfl rfl rfl rfl rfl ?_
            refine r_call (c_line b.form hok.form (b.rows.take (frmN b.form.lines.toNat b.rows.length i.1)) (take_small hsm _) (by rw [List.length_take]; omega)) rfl rfl rfl rfl rfl ?_
            refine r_catS (a := [43]) rfl rfl (by have := lineB_len hok.form (take_small hsm (frmN b.form.lines.toNat b.rows.length i.1)) (by rw [List.length_take]; omega); simp; omega) ?_
            refine r_callG [(6, 1000), (500, 1001)] [500] [(6, Cont.cells 114 (bldT 6 500 (prtB b.form b.rows b.form.lines.toNat i.1 ++ ([43] ++ lineB b.form (b.rows.take (frmN b.form.lines.toNat b.rows.length i.1))))))] (k_WriteString (prtB b.form b.rows b.form.lines.toNat i.1) ([43] ++ lineB b.form (b.rows.take (frmN b.form.lines.toNat b.rows.length i.1))) (by have := lineB_len hok.form (take_small hsm (frmN b.form.lines.toNat b.rows.length i.1)) (by rw [List.length_take]; omega); simp; omega)) rfl rfl (by repeat (first | exact cv_nil | refine cv_cons ?_ ?_ | exact cv_ptr List.mem_cons_self | exact cv_pub rfl rfl)) (pre_cons (a := 6) (b := 1000) (by exact List.mem_cons_self) rfl (cc_bld (by exact List.mem_cons_self) (List.mem_cons_of_mem _ List.mem_cons_self) rfl) pre_nil) (post_cons (a := 6) (b := 1000) (by exact List.mem_cons_self) rfl (cc_bld (by exact List.mem_cons_self) (List.mem_cons_of_mem _ List.mem_cons_self) rfl) post_nil) (cv_pub rfl rfl) ?_
            refine r_nil ?_
            refine ⟨by kernel_rfl, ?_⟩
            refine i_join ?_
            (refine Ent.mk' ?_ ?_ <;> (repeat' (first | exact allSub_zero | exact allTags_nil | exact subs_nil | refine allSub_succ' ?_ (Ty.sub_any _) | refine allSub_succ' ?_ (Ty.sub_refl _) | refine allTags_cons rfl (Cont.sub_subs ?_) ?_ | refine subs_cons ?_ (Ty.sub_refl _) | refine subs_cons ?_ ?_)))
            all_goals exact Ty.rn_eq (by unfold topB; rw [if_neg (by omega)]; rfl)
          ·
            refine t_skip ?_
            refine i_join ?_
            (refine Ent.mk' ?_ ?_ <;> (repeat' (first | exact allSub_zero | exact allTags_nil | exact subs_nil | refine allSub_succ' ?_ (Ty.sub_any _) | refine allSub_succ' ?_ (Ty.sub_refl _) | refine allTags_cons rfl (Cont.sub_subs ?_) ?_ | refine subs_cons ?_ (Ty.sub_refl _) | refine subs_cons ?_ ?_)))
            all_goals exact Ty.rn_eq (by unfold topB; rw [if_pos (by omega), List.append_nil])
        ·
          refine t_seq ?_
          refine t_seq ?_
          refine t_region ?_
          refine r_field_pp rfl rfl rfl rfl rfl (by decide) ?_
          refine r_load_pp rfl rfl rfl rfl ?_
          refine mvI rfl ?_
          refine mvI rfl ?_
          refine r_cut rfl rfl rfl rfl rfl rfl rfl he.2 (by omega) ?_
          refine r_len rfl rfl rfl ?_
          refine mvI rfl ?_
          refine r_nil ?_
          refine i_then ?_
          refine t_block ?_
          refine t_loop (fun (m : {m : Nat // m ≤ (midB b.rows b.form.lines.toNat i.1).length}) => live [(1, Ty.pp (bokTys b)), (5, Ty.ptr 6 0), (8, Ty.int .i64 ((endN b.form.lines.toNat b.rows.length i.1 : Nat) : Int)), (17, Ty.sl I64 (endsL b.form.lines.toNat b.rows.length)), (18, Ty.int .i64 (endsL b.form.lines.toNat b.rows.length).length), (19, Ty.int .i64 (i.1 : Nat)), (40, Ty.sl BRowE (midB b.rows b.form.lines.toNat i.1)), (41, Ty.int .i64 (midB b.rows b.form.lines.toNat i.1).length), (42, Ty.int .i64 (m.1 : Nat))] [(6, Cont.cells 114 (bldT 6 500 (prtB b.form b.rows b.form.lines.toNat i.1 ++ topB b.form b.rows b.form.lines.toNat i.1 ++ rowsB b.form ((midB b.rows b.form.lines.toNat i.1).take m.1))))]) (fun m => (midB b.rows b.form.lines.toNat i.1).length - m.1) (⟨0, Nat.zero_le _⟩) ?_ fun m => ?_
          · (refine Ent.mk' ?_ ?_ <;> (repeat' (first | exact allSub_zero | exact allTags_nil | exact subs_nil | refine allSub_succ' ?_ (Ty.sub_any _) | refine allSub_succ' ?_ (Ty.sub_refl _) | refine allTags_cons rfl (Cont.sub_subs ?_) ?_ | refine subs_cons ?_ (Ty.sub_refl _) | refine subs_cons ?_ ?_)))
            all_goals exact Ty.rn_eq (by rw [List.take_zero]; simp [rowsB])
          ·
            refine t_seq ?_
            refine t_region ?_
            refine r_bin rfl rfl rfl ?_
            refine r_nil ?_
            refine i_then ?_
            refine t_seq ?_
            refine t_cond_dec rfl (fun hc4 => ?_) (fun hc4 => ?_)
            ·
              refine t_skip ?_
              refine i_then ?_
              refine t_seq ?_
              refine t_block ?_
              refine t_seq ?_
              have hm : m.1 < (midB b.rows b.form.lines.toNat i.1).length := by omega
              have hrow := hok.row _ (mid_mem (nth_mem hm))
              have hml := mid_len (L := b.form.lines.toNat) (i := i.1) hok
              have hrl := rowsB_len hok.form (rows := (midB b.rows b.form.lines.toNat i.1).take m.1) fun r hr => hok.row r (mid_mem (List.mem_of_mem_take hr))
              have hrt : ((midB b.rows b.form.lines.toNat i.1).take m.1).length ≤ 12 := by rw [List.length_take]; omega
              have hr1 := rowB_len hok.form hrow
              refine t_region ?_
              refine r_index_slN rfl rfl rfl rfl rfl rfl (by omega) ?_
              refine r_load_ppN rfl rfl rfl (by exact Nat.le_of_ble_eq_true rfl) ?_
              refine r_alloc rfl (by exact List.cons_ne_nil _ _) rfl ?_
              refine r_storeN rfl rfl (by decide) rfl rfl rfl rfl rfl rfl ?_
              refine r_nil ?_
              refine i_then ?_
              refine t_region ?_
              refine r_field_pp rfl rfl rfl rfl rfl (by decide) ?_
              refine r_load_ppN rfl rfl rfl (by exact Nat.le_of_ble_eq_true rfl) ?_
              refine r_load_ptrN rfl rfl (by decide) rfl rfl (by exact Nat.le_of_ble_eq_true rfl) ?_
              refine r_call (c_row b.form hok.form _ hrow) rfl rfl rfl rfl rfl ?_
              refine r_callG [(6, 1000), (500, 1001)] [500] [(6, Cont.cells 114 (bldT 6 500 (prtB b.form b.rows b.form.lines.toNat i.1 ++ topB b.form b.rows b.form.lines.toNat i.1 ++ rowsB b.form ((midB b.rows b.form.lines.toNat i.1).take m.1) ++ rowB b.form (nth (midB b.rows b.form.lines.toNat i.1) m.1))))] (k_WriteString (prtB b.form b.rows b.form.lines.toNat i.1 ++ topB b.form b.rows b.form.lines.toNat i.1 ++ rowsB b.form ((midB b.rows b.form.lines.toNat i.1).take m.1)) (rowB b.form (nth (midB b.rows b.form.lines.toNat i.1) m.1)) (by simp; omega)) rfl rfl (by repeat (first | exact cv_nil | refine cv_cons ?_ ?_ | exact cv_ptr List.mem_cons_self | exact cv_pub rfl rfl)) (pre_cons (a := 6) (b := 1000) (by exact List.mem_cons_self) rfl (cc_bld (by exact List.mem_cons_self) (List.mem_cons_of_mem _ List.mem_cons_self) rfl) pre_nil) (post_cons (a := 6) (b := 1000) (by exact List.mem_cons_self) rfl (cc_bld (by exact List.mem_cons_self) (List.mem_cons_of_mem _ List.mem_cons_self) rfl) post_nil) (cv_pub rfl rfl) ?_
              refine r_nil ?_
              refine i_block ?_
              refine i_then ?_
              refine t_region ?_
              refine r_add rfl rfl (by omega) (by omega) ?_
              refine mvI rfl ?_
              refine r_nil ?_
              refine i_round (⟨m.1 + 1, by omega⟩) ?_ (by show (midB b.rows b.form.lines.toNat i.1).length - (m.1 + 1) < (midB b.rows b.form.lines.toNat i.1).length - m.1; omega)
              (refine Ent.mk' ?_ ?_ <;> (repeat' (first | exact allSub_zero | exact allTags_nil | exact subs_nil | refine allSub_succ' ?_ (Ty.sub_any _) | refine allSub_succ' ?_ (Ty.sub_refl _) | refine allTags_cons rfl (Cont.sub_subs ?_) ?_ | refine subs_cons ?_ (Ty.sub_refl _) | refine subs_cons ?_ ?_)))
              all_goals skip
              all_goals exact Ty.rn_eq (by rw [take_nth hm, rowsB_snoc]; simp only [List.append_assoc])
            ·
              refine t_exit ?_
              refine i_then_exit ?_
              refine i_then_exit ?_
              refine i_block_exit rfl ?_
              refine i_then ?_
              refine t_seq ?_
              have hml := mid_len (L := b.form.lines.toNat) (i := i.1) hok
              have hrl := rowsB_len hok.form (rows := (midB b.rows b.form.lines.toNat i.1).take m.1) fun r hr => hok.row r (mid_mem (List.mem_of_mem_take hr))
              have hrt : ((midB b.rows b.form.lines.toNat i.1).take m.1).length ≤ 12 := by rw [List.length_take]; omega
              have hme : m.1 = (midB b.rows b.form.lines.toNat i.1).length := by have := m.2; omega
              refine t_draw mixed rfl ?_
              refine r_field_pp rfl rfl rfl rfl rfl (by decide) ?_
              refine r_load_ppN rfl rfl rfl (by exact Nat.le_of_ble_eq_true rfl) ?_
              refine r_field_pp rfl rfl rfl rfl rfl (by decide) ?_
              refine r_load_pp rfl rfl rfl rfl ?_
              refine mvI rfl ?_
              refine r_cut_hi rfl rfl rfl rfl rfl rfl (by omega) ?_
              refine r_call (c_total (b.rows.take (endN b.form.lines.toNat b.rows.length i.1)) (take_small hsm _) (by rw [List.length_take]; omega)) rfl rfl rfl rfl rfl ?_
              refine r_call (c_line b.form hok.form (b.rows.take (endN b.form.lines.toNat b.rows.length i.1)) (take_small hsm _) (by rw [List.length_take]; omega)) rfl rfl rfl rfl rfl ?_
              refine r_catS (a := [61]) rfl rfl (by have := lineB_len hok.form (take_small hsm (endN b.form.lines.toNat b.rows.length i.1)) (by rw [List.length_take]; omega); rw [List.length_singleton]; omega) ?_
              refine r_callG [(6, 1000), (500, 1001)] [500] [(6, Cont.cells 114 (bldT 6 500 (prtB b.form b.rows b.form.lines.toNat i.1 ++ topB b.form b.rows b.form.lines.toNat i.1 ++ rowsB b.form ((midB b.rows b.form.lines.toNat i.1).take m.1) ++ ([61] ++ lineB b.form (b.rows.take (endN b.form.lines.toNat b.rows.length i.1))))))] (k_WriteString (prtB b.form b.rows b.form.lines.toNat i.1 ++ topB b.form b.rows b.form.lines.toNat i.1 ++ rowsB b.form ((midB b.rows b.form.lines.toNat i.1).take m.1)) ([61] ++ lineB b.form (b.rows.take (endN b.form.lines.toNat b.rows.length i.1))) (by have := lineB_len hok.form (take_small hsm (endN b.form.lines.toNat b.rows.length i.1)) (by rw [List.length_take]; omega); simp; omega)) rfl rfl (by repeat (first | exact cv_nil | refine cv_cons ?_ ?_ | exact cv_ptr List.mem_cons_self | exact cv_pub rfl rfl)) (pre_cons (a := 6) (b := 1000) (by exact List.mem_cons_self) rfl (cc_bld (by exact List.mem_cons_self) (List.mem_cons_of_mem _ List.mem_cons_self) rfl) pre_nil) (post_cons (a := 6) (b := 1000) (by exact List.mem_cons_self) rfl (cc_bld (by exact List.mem_cons_self) (List.mem_cons_of_mem _ List.mem_cons_self) rfl) post_nil) (cv_pub rfl rfl) ?_
              refine r_nil ?_
              refine ⟨by kernel_rfl, ?_⟩
              refine i_then ?_
              refine t_region ?_
              refine mvI rfl ?_
              refine asI rfl ?_
              refine r_nil ?_
              refine i_block ?_
              refine i_then ?_
              refine t_region ?_
              refine r_add rfl rfl (by omega) (by omega) ?_
              refine mvI rfl ?_
              refine r_nil ?_
              refine i_round (⟨i.1 + 1, by omega⟩) ?_ (by show pgs b.form.lines.toNat b.rows.length - (i.1 + 1) < pgs b.form.lines.toNat b.rows.length - i.1; omega)
              (refine Ent.mk' ?_ ?_ <;> (repeat' (first | exact allSub_zero | exact allTags_nil | exact subs_nil | refine allSub_succ' ?_ (Ty.sub_any _) | refine allSub_succ' ?_ (Ty.sub_refl _) | refine allTags_cons rfl (Cont.sub_subs ?_) ?_ | refine subs_cons ?_ (Ty.sub_refl _) | refine subs_cons ?_ ?_ | refine allSub_succ' ?_ ?_)))
              all_goals skip
              all_goals first | exact Ty.sub_int (by rw [frm_succ]) | exact Ty.rn_eq (by rw [prtB_succ, hme, List.take_length]; simp only [pageB, List.append_assoc, List.singleton_append])
      ·
        refine t_exit ?_
        refine i_then_exit ?_
        refine i_then_exit ?_
        refine i_block_exit rfl ?_
        refine i_then ?_
        refine t_seq ?_
        have hie : i.1 = pgs b.form.lines.toNat b.rows.length := by have := i.2; omega
        have hpt := prt_len hok i.1
        refine t_region ?_
        refine r_callG (res' := Ty.str (bs (prtB b.form b.rows b.form.lines.toNat i.1))) [(6, 1000), (500, 1001)] [500] [] (k_String (prtB b.form b.rows b.form.lines.toNat i.1) (by omega)) rfl rfl (by repeat (first | exact cv_nil | refine cv_cons ?_ ?_ | exact cv_ptr List.mem_cons_self)) (pre_cons (a := 6) (b := 1000) (by exact List.mem_cons_self) rfl (cc_bld (by exact List.mem_cons_self) (List.mem_cons_of_mem _ List.mem_cons_self) rfl) pre_nil) post_nil (cv_pub rfl rfl) ?_
        refine asS' rfl ?_
        refine asI rfl ?_
        refine r_nil ?_
        refine i_then ?_
        refine t_ret ?_
        refine i_rp2 rfl rfl rfl ?_ ?_
        all_goals skip
        all_goals first | exact ret_eq rfl rfl (congrArg (Ty.int .i64) hy.symm) | exact ret_eq rfl rfl (congrArg (fun l => Ty.str (bs l)) (by unfold printV printB; rw [if_pos hy, hie]))
end Go.Proofs.YtjjndkenddigiaaGreatDoor

namespace Go.Proofs.YtjjndkenddigiaaGreatDoor
open Go Go.T
def cntF (a : Bool) (i : Nat) : Nat := if a then i else i - 1
def blkB (f : BForm) (p : Rdr) : Bool := !p.digits && !lastB f p
def ctnB (f : BForm) (p : Rdr) : Bool := p.digits || lastB f p
def blkF (f : BForm) (p : Rdr) : Nat := if blkB f p = true then 1 else 0
theorem figs_get : ∀ (a : Bool) (i : Nat), i < 10 → (decide (0 < i) || a) = true → (figs a)[cntF a i]? = some (UInt8.ofNat (48 + i)) := by
  have h : ∀ (a : Bool) (i : Fin 10), (decide (0 < i.1) || a) = true → (figs a)[cntF a i.1]? = some (UInt8.ofNat (48 + i.1)) := by decide
  exact fun a i hi => h a ⟨i, hi⟩
theorem figs_len (a : Bool) : (figs a).length = cntF a 10 := by cases a <;> rfl
theorem cnt_yes {a : Bool} {i : Nat} (h : (decide (0 < i) || a) = true) : cntF a (i + 1) = cntF a i + 1 := by
  cases a <;> simp [cntF] at h ⊢; omega
theorem cnt_no {a : Bool} {i : Nat} (h : (decide (0 < i) || a) = false) : cntF a (i + 1) = cntF a i := by
  cases a <;> simp [cntF] at h ⊢; omega
theorem figC_eq (f : BForm) (p : Rdr) : figC f p = (if blkB f p = true then [32] else []) ++ figs (ctnB f p) := rfl
theorem figC_len (f : BForm) (p : Rdr) : (figC f p).length = blkF f p + cntF (ctnB f p) 10 := by
  rw [figC_eq, List.length_append, figs_len]; unfold blkF; split <;> rfl
theorem figC_blank {f : BForm} {p : Rdr} (h : blkB f p = true) : (figC f p)[0]? = some 32 := by
  rw [figC_eq, if_pos h]; rfl
theorem figC_get {f : BForm} {p : Rdr} {i : Nat} (hi : i < 10) (h : (decide (0 < i) || ctnB f p) = true) : (figC f p)[blkF f p + cntF (ctnB f p) i]? = some (UInt8.ofNat (48 + i)) := by
  rw [figC_eq]; unfold blkF
  split
  · rw [List.getElem?_append_right (by simp)]
    simpa using figs_get _ i hi h
  · simpa using figs_get _ i hi h
theorem RdrOk.widB {f : BForm} {p : Rdr} (ho : RdrOk f p) (hb : p.begun = true) : 1 ≤ nth f.widths p.column.toNat ∧ nth f.widths p.column.toNat ≤ 4 := by
  have h0 := ho.c0
  obtain ⟨h1, _⟩ := ho.beg hb
  exact ho.form.w _ (nth_mem (by omega))
theorem ctn_at {f : BForm} {p : Rdr} {i : Nat} {b : Bool} (h : (decide (0 < i) || ctnB f p) = b) : ((decide ((48 + (i : Int)) > 48) || p.digits) || lastB f p) = b := by
  rw [← h, Bool.or_assoc]; congr 1; rw [decide_eq_decide]; omega
theorem fig_val {i : Nat} (h : i < 10) : ((UInt8.ofNat (48 + i)).toNat : Int) = 48 + (i : Int) := by
  rw [UInt8.toNat_ofNat']; omega
theorem u8_next {i : Nat} (h : (48 + (i : Int)) ≤ 57) : IntKind.u8.wrap (48 + (i : Int) + 1) = 48 + ((i + 1 : Nat) : Int) := by
  have e : IntKind.u8.wrap (48 + (i : Int) + 1) = (48 + (i : Int) + 1) % 256 := rfl
  rw [e]; omega
theorem ck_beg {f : BForm} {p : Rdr} : blkF f p = blkF f p + cntF (ctnB f p) 0 := by unfold cntF; split <;> rfl
theorem ck_off {f : BForm} {p : Rdr} (h : blkB f p = false) : 0 = blkF f p := (if_neg (ng h)).symm
theorem ck_on {f : BForm} {p : Rdr} (h : blkB f p = true) : 0 + 1 = blkF f p := (if_pos h).symm
theorem ck_no {f : BForm} {p : Rdr} {i : Nat} (h : (decide (0 < i) || ctnB f p) = false) : blkF f p + cntF (ctnB f p) i = blkF f p + cntF (ctnB f p) (i + 1) := by rw [cnt_no h]
theorem ck_yes {f : BForm} {p : Rdr} {i : Nat} (h : (decide (0 < i) || ctnB f p) = true) : blkF f p + cntF (ctnB f p) i + 1 = blkF f p + cntF (ctnB f p) (i + 1) := by rw [cnt_yes h]; rfl
theorem ck_eq {J : Nat → World → Tags → Prop} (hJ : ∀ k, Cb (J k)) {m k : Nat} (e : m = k) : (Cont.ck (hJ m)).Sub (Cont.ck (hJ k)) := Cont.sub_ck hJ e
def u8Enc (c : UInt8) : List Ty := [Ty.int .u8 (c.toNat : Int)]
theorem u8_get {xs : Byt} {k : Nat} {c : UInt8} {v : Int} (h : xs[k]? = some c) (e : (c.toNat : Int) = v) : (xs.map u8Enc)[k]? = some [Ty.int .u8 v] := by
  rw [List.getElem?_map, h, ← e]; rfl
def moB (f : BForm) (p : Rdr) : Bool := decide (p.page < f.lines) && decide (p.rows < 12)
def eqB (p : Rdr) : Bool := decide (p.page > 0) || p.fresh
def moK (f : BForm) (p : Rdr) : Nat := if moB f p = true then 2 else 0
theorem can_must {f : BForm} {p : Rdr} (h : p.must ≠ []) : canR f p = [nth p.must 0] := by
  unfold canR; cases hm : p.must with
  | nil => exact absurd hm h
  | cons x t => rfl
theorem can_begun {f : BForm} {p : Rdr} (h : p.must = []) (hb : p.begun = true) : canR f p = figC f p := by
  unfold canR; rw [h]; exact if_pos hb
theorem can_closed {f : BForm} {p : Rdr} (h : p.must = []) (hb : p.begun = false) (hc : p.closed = true) : canR f p = if (decide (p.page = f.lines) && decide (p.rows < 12)) = true then [43] else [] := by
  unfold canR; rw [h]; show (if p.begun = true then _ else if p.closed = true then _ else _) = _
  rw [if_neg (ng hb), if_pos hc]; simp
theorem can_open {f : BForm} {p : Rdr} (h : p.must = []) (hb : p.begun = false) (hc : p.closed = false) : canR f p = (if moB f p = true then [32, 45] else []) ++ (if eqB p = true then [61] else []) := by
  unfold canR moB eqB; rw [h]; show (if p.begun = true then _ else if p.closed = true then _ else _) = _
  rw [if_neg (ng hb), if_neg (ng hc)]; simp
theorem must_0 {f : BForm} {p : Rdr} (h : p.must ≠ []) : (canR f p)[0]? = some (nth p.must 0) := by rw [can_must h]; rfl
theorem must_1 {f : BForm} {p : Rdr} (h : p.must ≠ []) : 0 + 1 = ((canR f p).map u8Enc).length := by rw [can_must h]; rfl
theorem beg_n {f : BForm} {p : Rdr} (h : p.must = []) (hb : p.begun = true) : ((figC f p).map u8Enc).length = ((canR f p).map u8Enc).length := by rw [can_begun h hb]
theorem cl_0 {f : BForm} {p : Rdr} (h : p.must = []) (hb : p.begun = false) (hc : p.closed = true) (hd : (decide (p.page = f.lines) && decide (p.rows < 12)) = true) : (canR f p)[0]? = some 43 := by rw [can_closed h hb hc, if_pos hd]; rfl
theorem cl_yes {f : BForm} {p : Rdr} (h : p.must = []) (hb : p.begun = false) (hc : p.closed = true) (hd : (decide (p.page = f.lines) && decide (p.rows < 12)) = true) : 0 + 1 = ((canR f p).map u8Enc).length := by rw [can_closed h hb hc, if_pos hd]; rfl
theorem cl_no {f : BForm} {p : Rdr} (h : p.must = []) (hb : p.begun = false) (hc : p.closed = true) (hd : (decide (p.page = f.lines) && decide (p.rows < 12)) = false) : 0 = ((canR f p).map u8Enc).length := by rw [can_closed h hb hc, if_neg (ng hd)]; rfl
theorem mo_off {f : BForm} {p : Rdr} (h : moB f p = false) : 0 = moK f p := (if_neg (ng h)).symm
theorem mo_on {f : BForm} {p : Rdr} (h : moB f p = true) : 0 + 1 + 1 = moK f p := (if_pos h).symm
theorem mo_0 {f : BForm} {p : Rdr} (h : p.must = []) (hb : p.begun = false) (hc : p.closed = false) (hm : moB f p = true) : (canR f p)[0]? = some 32 := by rw [can_open h hb hc, if_pos hm]; rfl
theorem mo_1 {f : BForm} {p : Rdr} (h : p.must = []) (hb : p.begun = false) (hc : p.closed = false) (hm : moB f p = true) : (canR f p)[0 + 1]? = some 45 := by rw [can_open h hb hc, if_pos hm]; rfl
theorem mo_2 {f : BForm} {p : Rdr} (h : p.must = []) (hb : p.begun = false) (hc : p.closed = false) (he : eqB p = true) : (canR f p)[moK f p]? = some 61 := by
  rw [can_open h hb hc, if_pos he]; unfold moK; cases moB f p <;> rfl
theorem mo_yes {f : BForm} {p : Rdr} (h : p.must = []) (hb : p.begun = false) (hc : p.closed = false) (he : eqB p = true) : moK f p + 1 = ((canR f p).map u8Enc).length := by
  rw [List.length_map, can_open h hb hc, if_pos he]; unfold moK; cases moB f p <;> rfl
theorem mo_no {f : BForm} {p : Rdr} (h : p.must = []) (hb : p.begun = false) (hc : p.closed = false) (he : eqB p = false) : moK f p = ((canR f p).map u8Enc).length := by
  rw [List.length_map, can_open h hb hc, if_neg (ng he)]; unfold moK; cases moB f p <;> rfl
def rdrN (f : BForm) (p : Rdr) (v : Value) : List Ty :=
  [Ty.sl I64 f.widths, Ty.int .i64 f.lines, Ty.int .i64 p.rows, Ty.int .i64 p.page, Ty.bool p.begun, Ty.bool p.closed, Ty.int .i64 p.column, Ty.int .i64 p.offset, Ty.int .i64 p.number, Ty.bool p.digits, Ty.ex v, Ty.str (bs p.must)]
def rdrT (f : BForm) (p : Rdr) (tg : Nat) : List Ty :=
  [Ty.sl I64 f.widths, Ty.int .i64 f.lines, Ty.int .i64 p.rows, Ty.int .i64 p.page, Ty.bool p.begun, Ty.bool p.closed, Ty.int .i64 p.column, Ty.int .i64 p.offset, Ty.int .i64 p.number, Ty.bool p.digits, Ty.row BRowE 66 tg p.read, Ty.str (bs p.must)]
end Go.Proofs.YtjjndkenddigiaaGreatDoor

namespace Go.Proofs.YtjjndkenddigiaaGreatDoor
open Go Go.T Go.RowKit
theorem eqIn_bool {P : Program} {w : World} {t : Nat} {a b : Bool} (d : Nat) (h : P.underlying t = some .bool) : (Op.equalIn (d + 1) t (.bool a) (.bool b)).run P w = .ok (decide (a = b)) w := by
  simp [Op.equalIn, run_underlying h]
  cases a <;> cases b <;> rfl
theorem eqvPlace (a0 : Int) (a1 : Int) (a2 : Bool) (a3 : Bool) (a4 : Int) (a5 : Int) (a6 : Int) (a7 : Bool) (b0 : Int) (b1 : Int) (b2 : Bool) (b3 : Bool) (b4 : Int) (b5 : Int) (b6 : Int) (b7 : Bool) (w : World) : (Op.equal 175 (.agg #[.int .i64 a0, .int .i64 a1, .bool a2, .bool a3, .int .i64 a4, .int .i64 a5, .int .i64 a6, .bool a7]) (.agg #[.int .i64 b0, .int .i64 b1, .bool b2, .bool b3, .int .i64 b4, .int .i64 b5, .int .i64 b6, .bool b7])).run Tryz.prog w = .ok (decide (a0 = b0) && (decide (a1 = b1) && (decide (a2 = b2) && (decide (a3 = b3) && (decide (a4 = b4) && (decide (a5 = b5) && (decide (a6 = b6) && decide (a7 = b7)))))))) w := by
  have hs : Tryz.prog.stoodInHeld 175 = false := by kernel_rfl
  have und : Tryz.prog.underlying 175 = Tryz.prog.underlying 175 := rfl
  have e3 : ∀ (x y : Int) (w : World), (Op.equalIn 9999 3 (.int .i64 x) (.int .i64 y)).run Tryz.prog w = .ok (decide (x = y)) w := fun x y w => eqIn_int 9998 Tryz.underlying3
  have e4 : ∀ (x y : Bool) (w : World), (Op.equalIn 9999 4 (.bool x) (.bool y)).run Tryz.prog w = .ok (decide (x = y)) w := fun x y w => eqIn_bool 9998 Tryz.underlying4
  have g3 : ∀ w, (isAgg 3).run Tryz.prog w = .ok false w := fun w => by simp [isAgg, run_underlying Tryz.underlying3]
  have g4 : ∀ w, (isAgg 4).run Tryz.prog w = .ok false w := fun w => by simp [isAgg, run_underlying Tryz.underlying4]
  unfold Op.equal Op.maxDepth
  rw [Op.equalIn]
  simp only [Sem.run_bind, run_underlying Tryz.underlying175, Result.andThen_ok]
  simp [hs, part, g3, g4, e3, e4]
  by_cases h0 : a0 = b0
  case neg => simp [h0]
  by_cases h1 : a1 = b1
  case neg => simp [h1]
  by_cases h2 : a2 = b2
  case neg => simp [h2]
  by_cases h3 : a3 = b3
  case neg => simp [h3]
  by_cases h4 : a4 = b4
  case neg => simp [h4]
  by_cases h5 : a5 = b5
  case neg => simp [h5]
  by_cases h6 : a6 = b6
  case neg => simp [h6]
  by_cases h7 : a7 = b7 <;> simp [h0, h1, h2, h3, h4, h5, h6, h7]
theorem eqtPlace (a0 : Int) (a1 : Int) (a2 : Bool) (a3 : Bool) (a4 : Int) (a5 : Int) (a6 : Int) (a7 : Bool) (b0 : Int) (b1 : Int) (b2 : Bool) (b3 : Bool) (b4 : Int) (b5 : Int) (b6 : Int) (b7 : Bool) : EqT Tryz.prog 175 [Ty.int .i64 a0, Ty.int .i64 a1, Ty.bool a2, Ty.bool a3, Ty.int .i64 a4, Ty.int .i64 a5, Ty.int .i64 a6, Ty.bool a7] [Ty.int .i64 b0, Ty.int .i64 b1, Ty.bool b2, Ty.bool b3, Ty.int .i64 b4, Ty.int .i64 b5, Ty.int .i64 b6, Ty.bool b7] (decide (a0 = b0) && (decide (a1 = b1) && (decide (a2 = b2) && (decide (a3 = b3) && (decide (a4 = b4) && (decide (a5 = b5) && (decide (a6 = b6) && decide (a7 = b7)))))))) :=
  ⟨by kernel_rfl, fun w M cs ds h1 h2 => by
    obtain ⟨cs⟩ := cs
    obtain ⟨ds⟩ := ds
    match cs, ds, h1, h2 with
    | [u0, u1, u2, u3, u4, u5, u6, u7], [v0, v1, v2, v3, v4, v5, v6, v7], h1, h2 =>
      simp only [dens, Ty.int, dInt, Ty.bool, dBool, and_true] at h1 h2
      obtain ⟨rfl, rfl, rfl, rfl, rfl, rfl, rfl, rfl⟩ := h1
      obtain ⟨rfl, rfl, rfl, rfl, rfl, rfl, rfl, rfl⟩ := h2
      exact eqvPlace _ _ _ _ _ _ _ _ _ _ _ _ _ _ _ _ w⟩
end Go.Proofs.YtjjndkenddigiaaGreatDoor

namespace Go.T
open Go Go.RowKit
section
variable {P : Program} {fr : Fr} {ops : Array Oper} {A : As} {rest : List Oper} {K : As → List (As × Fx) → Prop} {d : Nat} {t ty' : TypeId} {p : String} {e : Array Edge} [T : Tab P]
end
section
open Go.RowKit
variable {P : Program} {A : As} {fn : Func} {n : Nat} {w0 : World} {M0 : Tags} {F : List Nat} {post : List (Nat × Cont)} [T : Tab P]
end
section
variable {P : Program} {fr : Fr} {A : As}
end
end Go.T

namespace Go.T
open Go Go.RowKit
section
variable {P : Program} {fr : Fr} {A : As}
end
end Go.T

namespace Go.T
open Go Go.RowKit
end Go.T

namespace Go.T
open Go Go.RowKit
def dFact (tys : List Ty) (vs : List Value) (w : World) (M : Tags) (_ : Nat) : Prop := dens w M tys vs
def Cont.fact (tys : List Ty) (vs : List Value) (h1 : depsOf tys = []) (h2 : cdepsOf tys = []) : Cont :=
  { den := dFact tys vs, deps := [], cdeps := [], mono := fun le _ _ _ _ h => dens_mono le (by rw [h1]; intro _ h; cases h) (by rw [h2]; intro _ h; cases h) h }
def XB (b D Tb : Nat) (vs : List Value) (J : Nat → World → Tags → Prop) : Prop :=
  ∀ k w M, Wf w M → J k w M → M b = some D ∧ ∃ cs : Array Value, w.heap[b]? = some (.cells cs Tb (0, 0)) ∧ cs.toList.take vs.length = vs
def CtrIX (P : Program) (f : FuncId) (b D Tb : Nat) (vs : List Value) (tys : List Ty) (args : Nat → List Ty) (encs : List (List Ty)) (resD resS : Ty) : Prop :=
  (∃ fn, P.funcs[f]? = some fn ∧ (fn.name == "runtime.NumGoroutine") = false ∧ fn.body.isNone = false) ∧
  ∀ l J Jx, (∀ k, Cb (J k)) → Cb Jx → XB b D Tb vs J → Yld P l encs J Jx → ∀ w M us, Wf w M → ZOk M → dens w M (args l) us → dens w M tys vs → J 0 w M →
    Calls P f us.toArray w (iterPost encs.length J Jx resD resS)
section
variable {P : Program}
theorem fnIX_intro {f b D Tb : Nat} {us : List Value} {tys : List Ty} {fn : Func} {c : Code} {args : Nat → List Ty} {encs : List (List Ty)} {n : Nat} (h1 : depsOf tys = []) (h2 : cdepsOf tys = []) (hf : P.funcs[f]? = some fn) (hb : fn.body = some c) (hn : (fn.name == "runtime.NumGoroutine") = false) (hnt : fn.ntmps = n) (hl : ∀ l, (args l).length ≤ n) (hdd : ∀ l, depsOf (args l) = [] ∧ cdepsOf (args l) = [])
    (h : ∀ l J Jx (hJ : ∀ k, Cb (J k)) (hJx : Cb Jx), XB b D Tb us J → Yld P l encs J Jx → ∀ w0 M0, Tri P ⟨n, w0, M0, [7000, 5000], .plain⟩ c (entryG (args l) [(7000, .ck (hJ 0)), (4000, Cont.fact tys us h1 h2)]) (bodyPost P fn (iterPost encs.length J Jx (Ty.tup []) (Ty.tup [])))) : CtrIX P f b D Tb us tys args encs (Ty.tup []) (Ty.tup []) := by
  refine ⟨⟨fn, hf, hn, by rw [hb]; rfl⟩, fun l J Jx hJ hJx hX hY w Mc vs wf z hd hus hj => calls_of_wp hf hb (wpIn_wide.1 (h l J Jx hJ hJx hX hY w (startM Mc none) _ _ ?_))⟩
  have hall : dens w (startM Mc none) (args l) vs := conv_nodeps (fun b hb => startM_none' hb) (hdd l).1 (hdd l).2 hd
  have hlen := dens_len hall
  have hl := hl l
  refine ⟨startM Mc none, ⟨startM_wf wf, Le.refl _ _ _ _, by simp [hnt, hlen]; omega, Defs.nil⟩, fun c hc => ?_, fun x hx => ?_⟩
  · simp only [entryG]
    cases ha : (args l)[c]? with
    | none => trivial
    | some ty =>
      obtain ⟨v, hv, hdv⟩ := dens_get hall c ty ha
      have : (vs.toArray ++ Array.replicate (fn.ntmps - vs.toArray.size) undef).getD c undef = v := by
        have hlt : c < vs.length := (List.getElem?_eq_some_iff.1 hv).1
        rw [Array.getD_eq_getD_getElem?, Array.getElem?_append_left (by simpa using hlt)]
        simp [hv]
      rw [this]; exact hdv
  · rcases List.mem_cons.1 hx with rfl | hx
    · exact ⟨rfl, startM_ck wf z hj⟩
    · rw [List.mem_singleton.1 hx]
      exact conv_nodeps (fun b hb => startM_none' hb) h1 h2 hus
theorem i_retX0 {fn : Func} {n : Nat} {A : As} {w0 : World} {M0 : Tags} {J : Nat → World → Tags → Prop} {Jx : World → Tags → Prop} {m : Nat} {h1 : Cb (J m)} (hr : fn.results = #[]) (ht : A.tag 7000 = some (.ck h1)) : Into ⟨n, w0, M0, [7000, 5000], .plain⟩ A (bodyPost P fn (iterPost m J Jx (Ty.tup []) (Ty.tup [])) .normal) := by
  intro a w' ⟨M, ok, hsl, htg⟩
  obtain ⟨_, Mc', wf', z', hj, k1, k2⟩ := htg _ (tag_mem ht)
  exact ⟨ok.nodefers (by simp), _, results_none hr _ _ _, _, Mc', rfl, wf', z', .inl ⟨⟨_, rfl, trivial⟩, hj⟩⟩
theorem i_retX0e {fn : Func} {n : Nat} {A : As} {w0 : World} {M0 : Tags} {J : Nat → World → Tags → Prop} {Jx : World → Tags → Prop} {m k : Nat} {hJ : ∀ k, Cb (J k)} (e : k = m) (hr : fn.results = #[]) (ht : A.tag 7000 = some (.ck (hJ k))) : Into ⟨n, w0, M0, [7000, 5000], .plain⟩ A (bodyPost P fn (iterPost m J Jx (Ty.tup []) (Ty.tup [])) .normal) := by
  subst e; exact i_retX0 hr ht
theorem i_retXx {fn : Func} {n : Nat} {A : As} {w0 : World} {M0 : Tags} {J : Nat → World → Tags → Prop} {Jx : World → Tags → Prop} {m : Nat} {hx : Cb Jx} (hr : fn.results = #[]) (ht : A.tag 7000 = some (.ck hx)) : Into ⟨n, w0, M0, [7000, 5000], .plain⟩ A (bodyPost P fn (iterPost m J Jx (Ty.tup []) (Ty.tup [])) .ret) := by
  intro a w' ⟨M, ok, hsl, htg⟩
  obtain ⟨_, Mc', wf', z', hj, k1, k2⟩ := htg _ (tag_mem ht)
  exact ⟨ok.nodefers (by simp), _, results_none hr _ _ _, _, Mc', rfl, wf', z', .inr ⟨⟨_, rfl, trivial⟩, hj⟩⟩
variable {fr : Fr} {ops : Array Oper} {A : As} {rest : List Oper} {K : As → List (As × Fx) → Prop} {d : Nat} {t ty' : TypeId} {p : String} {e : Array Edge} [T : Tab P]
omit T in
theorem r_nilCheckX {x : Operand} {b off : Nat} (hx : A.op fr x = .ex (.pointer (some ⟨b, off, none⟩)))
    (h : TOps P fr ops rest (A.set d (.ex (.pointer (some ⟨b, off, none⟩)))) fun A' l' => K A' ((A, { d := some d, ty := .ex (.pointer (some ⟨b, off, none⟩)), rs := opR x }) :: l')) : TOps P fr ops (⟨some d, .nilCheck x, t, p, e, none⟩ :: rest) A K :=
  tops_pure (opT_pure rfl rfl fun a w M _ hrd _ => by
    have hdx := op_den (x := x) (fun _ h => h) hrd
    rw [hx] at hdx
    have ex : a.eval x = .pointer (some ⟨b, off, none⟩) := hdx
    exact ⟨_, by simp [execOp, ex], rfl⟩) h
theorem r_fieldX {x : Operand} {b off f : Nat} {ti tf : TI} {fs : List (Nat × Nat)} {o ft : Nat} (hx : A.op fr x = .ex (.pointer (some ⟨b, off, none⟩))) (hT : T.tab[ty']? = some ti) (hk : ti.k = .struct fs) (hf : fs[f]? = some (o, ft)) (hF : T.tab[ft]? = some tf) (h0 : tf.size ≠ 0)
    (h : TOps P fr ops rest (A.set d (.ex (.pointer (some ⟨b, off + o, none⟩)))) fun A' l' => K A' ((A, { d := some d, ty := .ex (.pointer (some ⟨b, off + o, none⟩)), rs := opR x }) :: l')) : TOps P fr ops (⟨some d, .fieldAddr ty' x f, t, p, e, none⟩ :: rest) A K :=
  tops_pure (opT_pure rfl rfl fun a w M _ hrd _ => by
    have hdx := op_den (x := x) (fun _ h => h) hrd
    rw [hx] at hdx
    have ex : a.eval x = .pointer (some ⟨b, off, none⟩) := hdx
    exact ⟨_, by simp [execOp, ex, run_field hT hk hf hF h0], rfl⟩) h
def dRv {α : Type} (v : Value) (E : El α) (T tg : Nat) (xs : List α) (w : World) (M : Tags) (_ : Nat) : Prop := (Ty.row E T tg xs).den w M v
def Cont.rv {α : Type} (v : Value) (E : El α) (T tg : Nat) (xs : List α) : Cont :=
  { den := dRv v E T tg xs, deps := (Ty.row E T tg xs).deps, cdeps := (Ty.row E T tg xs).cdeps, mono := fun le hk hs _ _ h => (Ty.row E T tg xs).mono le hk hs h }
theorem take_get {vs l : List Value} {i : Nat} {v : Value} (h : l.take vs.length = vs) (hv : vs[i]? = some v) : l[i]? = some v := by
  have hi : i < vs.length := (List.getElem?_eq_some_iff.1 hv).1
  rw [← h, List.getElem?_take, if_pos hi] at hv
  exact hv
theorem r_loadJ {x : Operand} {b D Tb off k : Nat} {vs : List Value} {tys : List Ty} {J : Nat → World → Tags → Prop} {hJ : ∀ k, Cb (J k)} {ti : TI} {ty : Ty} {h1 : depsOf tys = []} {h2 : cdepsOf tys = []} (hX : XB b D Tb vs J) (hx : A.op fr x = .ex (.pointer (some ⟨b, off, none⟩))) (ht : A.tag 7000 = some (.ck (hJ k))) (htf : A.tag 4000 = some (Cont.fact tys vs h1 h2)) (hT : T.tab[ty']? = some ti) (ha : ti.k.agg = false) (hl : tys[off]? = some ty)
    (h : TOps P fr ops rest (A.set d ty) fun A' l => K A' ((A, { d := some d, ty := ty, rs := opR x, rt := [7000, 4000] }) :: l)) : TOps P fr ops (⟨some d, .load ty' x, t, p, e, none⟩ :: rest) A K :=
  tops_pure (opT_pure rfl rfl fun a w M wf hr htg => by
    have hdx := op_den (x := x) (fun _ h => h) hr
    rw [hx] at hdx
    have ex : a.eval x = .pointer (some ⟨b, off, none⟩) := hdx
    obtain ⟨_, Mc, wfc, z, hj, g1, g2⟩ := htg _ (tag_mem ht) (by simp)
    have hf : dens w M tys vs := htg _ (tag_mem htf) (by simp)
    obtain ⟨_, cs, hh, hcs⟩ := hX k w Mc wfc hj
    obtain ⟨v, hv, hd⟩ := dens_get hf off ty hl
    have hv' : w.cell? ⟨b, off, none⟩ = some v := by
      have := take_get hcs hv
      simpa [World.cell?, hh] using this
    exact ⟨v, by simp [execOp, ex, run_load1 hT ha hv'], hd⟩) h
end
theorem deps_lt {l : List Nat} (h : l.all (fun t => Nat.blt t 1000000) = true) : ∀ t ∈ l, t < Zt := fun t ht => by
  have := List.all_eq_true.1 h t ht
  rw [Nat.blt_eq] at this; exact this
section
variable {P : Program} {fr : Fr} {A : As} {Q : Exit → Act → World → Prop} {c : Code}
theorem dens_cutX {w : World} {M : Tags} {l1 l2 : List Ty} {vs : List Value} (h : dens w M (l1 ++ l2) vs) : ∃ v1 v2, vs = v1 ++ v2 ∧ dens w M l1 v1 ∧ dens w M l2 v2 := by
  induction l1 generalizing vs with
  | nil => exact ⟨[], vs, rfl, trivial, h⟩
  | cons t l1 ih =>
    cases vs with
    | nil => cases h
    | cons v vs =>
      obtain ⟨v1, v2, e, h1, h2⟩ := ih h.2
      exact ⟨v :: v1, v2, by rw [e]; rfl, ⟨h.1, h1⟩, h2⟩
theorem dens_ex {w : World} {M : Tags} : ∀ (vs : List Value), dens w M (vs.map Ty.ex) vs
  | [] => trivial
  | _ :: vs => ⟨rfl, dens_ex vs⟩
theorem dens_ex_eq {w : World} {M : Tags} : ∀ {vs us : List Value}, dens w M (vs.map Ty.ex) us → us = vs
  | [], [], _ => rfl
  | [], _ :: _, h => by cases h
  | _ :: _, [], h => by cases h
  | v :: vs, u :: us, h => by rw [show u = v from h.1, dens_ex_eq h.2]
theorem t_name {D Tb : Nat} {tys r : List Ty} (h1 : depsOf tys = []) (h2 : cdepsOf tys = []) (hc : A.tag D = some (.cells Tb (tys ++ r))) (hD : Tag1 D)
    (h : ∀ vs, vs.length = tys.length → Tri P fr c ⟨A.slots, (D, .cells Tb (vs.map Ty.ex ++ r)) :: (4000, Cont.fact tys vs h1 h2) :: A.tags.filter fun x => !(x.1 == D)⟩ Q) : Tri P fr c A Q := by
  intro a w ⟨M, ok, hsl, htg⟩
  obtain ⟨b, cs, hb, hh, hd⟩ := htg _ (tag_mem hc)
  obtain ⟨v1, v2, e, d1, d2⟩ := dens_cutX hd
  refine h v1 (dens_len d1) a w ⟨M, ok, hsl, fun x hx => ?_⟩
  rcases List.mem_cons.1 hx with rfl | hx
  · exact ⟨b, cs, hb, hh, by rw [e]; exact dens_append (dens_ex v1) d2⟩
  · rcases List.mem_cons.1 hx with rfl | hx
    · exact d1
    · exact htg x (List.mem_filter.1 hx).1
theorem t_unname {D Tb : Nat} {vs : List Value} {tys r : List Ty} {h1 : depsOf tys = []} {h2 : cdepsOf tys = []} (hc : A.tag D = some (.cells Tb (vs.map Ty.ex ++ r))) (hf : A.tag 4000 = some (Cont.fact tys vs h1 h2))
    (h : Tri P fr c ⟨A.slots, (D, .cells Tb (tys ++ r)) :: A.tags.filter fun x => !(x.1 == D)⟩ Q) : Tri P fr c A Q := by
  intro a w ⟨M, ok, hsl, htg⟩
  obtain ⟨b, cs, hb, hh, hd⟩ := htg _ (tag_mem hc)
  have hfd : dens w M tys vs := htg _ (tag_mem hf)
  refine h a w ⟨M, ok, hsl, fun x hx => ?_⟩
  rcases List.mem_cons.1 hx with rfl | hx
  · obtain ⟨v1, v2, e, d1, d2⟩ := dens_cutX hd
    rw [dens_ex_eq d1] at e
    exact ⟨b, cs, hb, hh, by rw [e]; exact dens_append hfd d2⟩
  · exact htg x (List.mem_filter.1 hx).1
theorem t_nameR {D Tb tg : Nat} {α : Type} {E : El α} {T : Nat} {xs : List α} (l1 : List Ty) {l2 : List Ty} (hc : A.tag D = some (.cells Tb (l1 ++ Ty.row E T tg xs :: l2)))
    (h : ∀ v, Tri P fr c ⟨A.slots, (D, .cells Tb (l1 ++ Ty.ex v :: l2)) :: (tg, Cont.rv v E T tg xs) :: A.tags.filter fun x => !(x.1 == D)⟩ Q) : Tri P fr c A Q := by
  intro a w ⟨M, ok, hsl, htg⟩
  obtain ⟨b, cs, hb, hh, hd⟩ := htg _ (tag_mem hc)
  obtain ⟨v1, v2, e, d1, d2⟩ := dens_cutX hd
  match v2, d2 with
  | v :: v2, d2 =>
    refine h v a w ⟨M, ok, hsl, fun x hx => ?_⟩
    rcases List.mem_cons.1 hx with rfl | hx
    · exact ⟨b, cs, hb, hh, by rw [e]; exact dens_append d1 ⟨rfl, d2.2⟩⟩
    · rcases List.mem_cons.1 hx with rfl | hx
      · exact d2.1
      · exact htg x (List.mem_filter.1 hx).1
theorem ranges_X {f D Tb n sd : Nat} {tys : List Ty} {vs : List Value} {h1 : depsOf tys = []} {h2 : cdepsOf tys = []} {pubs : List Ty} {encs : List (List Ty)} {resD resS : Ty} {s : Nat → Ty} {tg : Nat → List (Nat × Cont)} {r : Nat → List Ty}
    (hI : ∀ b, CtrIX P f b D Tb vs tys (fun l => Ty.ex (yv l) :: Ty.pp [Ty.ex (.pointer (some ⟨b, 0, none⟩))] :: pubs) encs resD resS)
    (hD : Tag1 D) (hsn : sd < n) (hsd : s sd = Ty.ptr D 0) (htD : ∀ k, (D, Cont.cells Tb (vs.map Ty.ex ++ r k)) ∈ tg k) (htf : (4000, Cont.fact tys vs h1 h2) ∈ tg 0) :
    ∀ (l : Nat) (J : Nat → World → Tags → Prop) (Jx : World → Tags → Prop) (tm : Array Value), (∀ k, Cb (J k)) → Cb Jx → Yld P l encs J Jx → (∀ k w M, J k w M → (∀ c, c < n → (s c).den w M (tm.getD c undef)) ∧ ∀ x ∈ tg k, x.2.den w M x.1) → ∀ w M us, Wf w M → ZOk M → dens w M (Ty.ex (yv l) :: Ty.pp [Ty.ptr D 0] :: pubs) us → J 0 w M → Calls P f us.toArray w (iterPost encs.length J Jx resD resS) := by
  intro l J Jx tm hJ hJx hY hS w M us wf z hd hj
  obtain ⟨u, rfl⟩ : ∃ u, D = u + 1 := ⟨D - 1, by have := hD.1; omega⟩
  have hat : ∀ k w M, Wf w M → J k w M → ∃ b, M b = some (u + 1) ∧ tm.getD sd undef = .pointer (some ⟨b, 0, none⟩) ∧ ∃ cs : Array Value, w.heap[b]? = some (.cells cs Tb (0, 0)) ∧ cs.toList.take vs.length = vs := fun k w M wf hj => by
    obtain ⟨g1, g2⟩ := hS k w M hj
    have g3 := g1 sd hsn
    rw [hsd] at g3
    obtain ⟨b, hb, e⟩ := g3
    obtain ⟨b', cs, hb', hh, hds⟩ := g2 _ (htD k)
    have := wf.inj b b' u hD.2 hb hb'
    subst this
    obtain ⟨v1, v2, e2, d1, d2⟩ := dens_cutX hds
    rw [dens_ex_eq d1] at e2
    exact ⟨b, hb, e, cs, hh, by rw [e2, List.take_left']; rfl⟩
  obtain ⟨b, hb, eb, _⟩ := hat 0 w M wf hj
  have hX : XB b (u + 1) Tb vs J := fun k w' M' wf' hj' => by
    obtain ⟨b', hb', eb', cs, hh, hcs⟩ := hat k w' M' wf' hj'
    rw [eb] at eb'
    injection eb' with eb'
    injection eb' with eb'
    injection eb' with eb' _ _
    subst eb'
    exact ⟨hb', cs, hh, hcs⟩
  refine (hI b).2 l J Jx hJ hJx hX hY w M us wf z ?_ ((hS 0 w M hj).2 _ htf) hj
  match us, hd with
  | u1 :: u2 :: us, ⟨d1, ⟨q, off, e, m1, m2, m3⟩, d3⟩ =>
    refine ⟨d1, ⟨q, off, e, m1, m2, fun i t hi => ?_⟩, d3⟩
    cases i with
    | succ i => cases hi
    | zero =>
      obtain ⟨x, hx, b', hb', ex⟩ := m3 0 _ rfl
      have := wf.inj b b' u hD.2 hb hb'
      subst this
      injection hi with hi
      subst hi
      exact ⟨x, hx, ex⟩
end
end Go.T

namespace Go.T
open Go Go.RowKit
def Cont.ce {J1 Jx : World → Tags → Prop} (h1 : Cb J1) (hx : Cb Jx) : Cont :=
  { den := fun w M t => t = 7000 ∧ (dCK J1 w M ∨ dCK Jx w M)
    mono := fun le _ _ hs hk ⟨e, h⟩ => ⟨e, h.imp (dCK_mono h1 le (e ▸ hs) (e ▸ hk)) (dCK_mono hx le (e ▸ hs) (e ▸ hk))⟩ }
def izPost (w : World) (Mc : Tags) (n : Nat) (J : Nat → World → Tags → Prop) (Jx : World → Tags → Prop) (e : Ending) (w' : World) : Prop :=
  ∃ r M', e = .returned r ∧ Wf w' M' ∧ ZOk M' ∧ Le (fun t => t < Zt) (fun t => t < Zt) w Mc w' M' ∧ (J n w' M' ∨ Jx w' M')
def CtrIZ (P : Program) (f : FuncId) (b D Tb : Nat) (vs : List Value) (tys : List Ty) (args : Nat → List Ty) (encs : List (List Ty)) : Prop :=
  (∃ fn, P.funcs[f]? = some fn ∧ (fn.name == "runtime.NumGoroutine") = false ∧ fn.body.isNone = false) ∧
  ∀ l J Jx, (∀ k, Cb (J k)) → Cb Jx → XB b D Tb vs J → Yld P l encs J Jx → ∀ w M us, Wf w M → ZOk M → dens w M (args l) us → dens w M tys vs → J 0 w M →
    Calls P f us.toArray w (izPost w M encs.length J Jx)
def oldZ (Mc : Tags) (b : Nat) : Prop := Mc b = some (Zt + b)
section
variable {P : Program}
theorem fnIZ_intro {f b D Tb : Nat} {us : List Value} {tys : List Ty} {fn : Func} {c : Code} {args : Nat → List Ty} {encs : List (List Ty)} {n : Nat} (h1 : depsOf tys = []) (h2 : cdepsOf tys = []) (hf : P.funcs[f]? = some fn) (hb : fn.body = some c) (hn : (fn.name == "runtime.NumGoroutine") = false) (hnt : fn.ntmps = n) (hl : ∀ l, (args l).length ≤ n) (hdd : ∀ l, depsOf (args l) = [] ∧ cdepsOf (args l) = [])
    (h : ∀ l J Jx (hJ : ∀ k, Cb (J k)) (hJx : Cb Jx), XB b D Tb us J → Yld P l encs J Jx → ∀ w0 Mc, Wf w0 Mc → ZOk Mc → Tri P ⟨n, w0, startM Mc none, [7000, 5000], .plain⟩ c (entryG (args l) [(7000, .ck (hJ 0)), (4000, Cont.fact tys us h1 h2), (5000, .snap w0 (oldZ Mc))]) (bodyPost P fn (izPost w0 Mc encs.length J Jx))) : CtrIZ P f b D Tb us tys args encs := by
  refine ⟨⟨fn, hf, hn, by rw [hb]; rfl⟩, fun l J Jx hJ hJx hX hY w Mc vs wf z hd hus hj => calls_of_wp hf hb (wpIn_wide.1 (h l J Jx hJ hJx hX hY w Mc wf z _ _ ?_))⟩
  have hall : dens w (startM Mc none) (args l) vs := conv_nodeps (fun b hb => startM_none' hb) (hdd l).1 (hdd l).2 hd
  have hlen := dens_len hall
  have hl := hl l
  refine ⟨startM Mc none, ⟨startM_wf wf, Le.refl _ _ _ _, by simp [hnt, hlen]; omega, Defs.nil⟩, fun c hc => ?_, fun x hx => ?_⟩
  · simp only [entryG]
    cases ha : (args l)[c]? with
    | none => trivial
    | some ty =>
      obtain ⟨v, hv, hdv⟩ := dens_get hall c ty ha
      have : (vs.toArray ++ Array.replicate (fn.ntmps - vs.toArray.size) undef).getD c undef = v := by
        have hlt : c < vs.length := (List.getElem?_eq_some_iff.1 hv).1
        rw [Array.getD_eq_getD_getElem?, Array.getElem?_append_left (by simpa using hlt)]
        simp [hv]
      rw [this]; exact hdv
  · simp only [entryG, List.mem_cons, List.not_mem_nil, or_false] at hx
    rcases hx with rfl | rfl | rfl
    · exact ⟨rfl, startM_ck wf z hj⟩
    · exact conv_nodeps (fun b hb => startM_none' hb) h1 h2 hus
    · intro b hb
      refine ⟨?_, rfl⟩
      have : ¬ Zt + b < Zt := by omega
      have hb : Mc b = some (Zt + b) := hb
      simp [startM, hb, this]
theorem zret_le {w w' : World} {Mc M Mc' : Tags} (z : ZOk Mc) (wf : Wf w Mc)
    (hb : Le (fun t => 1 ≤ t) (fun t => 1 ≤ t ∧ t ∉ [7000, 5000]) w (startM Mc none) w' M) (ho : (Cont.snap w (oldZ Mc)).den w' M 5000) (k1 : ∀ b, M b = none → Mc' b = none) (k2 : ∀ b u, b < w'.heap.size → M b = some u → u ≠ 7000 → Mc' b = some (Zt + b)) :
    Le (fun t => t < Zt) (fun t => t < Zt) w Mc w' Mc' := by
  refine ⟨hb.size, hb.os, hb.tape, hb.out, fun b hlt h => ?_, fun b t h ht => ?_⟩
  · obtain ⟨a, c⟩ := hb.pub b hlt (startM_none' h)
    exact ⟨k1 b a, c⟩
  · have e := z b t h (by omega)
    subst e
    have hlt : b < w'.heap.size := Nat.lt_of_lt_of_le (wf.lt b _ h) hb.size
    obtain ⟨a, c⟩ := ho b h
    exact ⟨k2 b 5000 hlt a (by decide), fun _ => c⟩
section
variable {A : As} {fn : Func} {n : Nat} {w0 : World} {Mc : Tags} {J : Nat → World → Tags → Prop} {Jx : World → Tags → Prop}
theorem i_retZ0 {m k : Nat} {hJ : ∀ k, Cb (J k)} (z : ZOk Mc) (wf : Wf w0 Mc) (e : k = m) (hr : fn.results = #[]) (ht : A.tag 7000 = some (.ck (hJ k))) (ho : A.tag 5000 = some (.snap w0 (oldZ Mc))) : Into ⟨n, w0, startM Mc none, [7000, 5000], .plain⟩ A (bodyPost P fn (izPost w0 Mc m J Jx) .normal) := by
  subst e
  intro a w' ⟨M, ok, hsl, htg⟩
  obtain ⟨_, Mc', wf', z', hj, k1, k2⟩ := htg _ (tag_mem ht)
  exact ⟨ok.nodefers (by simp), _, results_none hr _ _ _, _, Mc', rfl, wf', z', zret_le z wf ok.base (htg _ (tag_mem ho)) k1 k2, .inl hj⟩
theorem i_retZx {m : Nat} {hx : Cb Jx} (z : ZOk Mc) (wf : Wf w0 Mc) (hr : fn.results = #[]) (ht : A.tag 7000 = some (.ck hx)) (ho : A.tag 5000 = some (.snap w0 (oldZ Mc))) : Into ⟨n, w0, startM Mc none, [7000, 5000], .plain⟩ A (bodyPost P fn (izPost w0 Mc m J Jx) .ret) := by
  intro a w' ⟨M, ok, hsl, htg⟩
  obtain ⟨_, Mc', wf', z', hj, k1, k2⟩ := htg _ (tag_mem ht)
  exact ⟨ok.nodefers (by simp), _, results_none hr _ _ _, _, Mc', rfl, wf', z', zret_le z wf ok.base (htg _ (tag_mem ho)) k1 k2, .inr hj⟩
theorem i_retXe {M0 : Tags} {m k : Nat} {hJ : ∀ k, Cb (J k)} {hx : Cb Jx} (e : k = m) (hr : fn.results = #[]) (ht : A.tag 7000 = some (.ce (hJ k) hx)) : Into ⟨n, w0, M0, [7000, 5000], .plain⟩ A (bodyPost P fn (iterPost m J Jx (Ty.tup []) (Ty.tup [])) .normal) := by
  subst e
  intro a w' ⟨M, ok, hsl, htg⟩
  obtain ⟨_, h | h⟩ := htg _ (tag_mem ht)
  · obtain ⟨Mc', wf', z', hj, k1, k2⟩ := h
    exact ⟨ok.nodefers (by simp), _, results_none hr _ _ _, _, Mc', rfl, wf', z', .inl ⟨⟨_, rfl, trivial⟩, hj⟩⟩
  · obtain ⟨Mc', wf', z', hj, k1, k2⟩ := h
    exact ⟨ok.nodefers (by simp), _, results_none hr _ _ _, _, Mc', rfl, wf', z', .inr ⟨⟨_, rfl, trivial⟩, hj⟩⟩
theorem i_retXY {s : Nat} {M0 : Tags} {m k : Nat} {hJ : ∀ k, Cb (J k)} {hx : Cb Jx} (e : k = m) (hr : fn.results = #[]) (hsn : Nat.blt s n = true) (hs : A.slots s = .yb true (hJ k) hx) : Into ⟨n, w0, M0, [7000, 5000], .plain⟩ A (bodyPost P fn (iterPost m J Jx (Ty.tup []) (Ty.tup [])) .normal) := by
  subst e; exact i_retYI hr hsn hs
end
variable {fr : Fr} {ops : Array Oper} {A : As} {rest : List Oper} {K : As → List (As × Fx) → Prop} {d : Nat} {t ty' : TypeId} {p : String} {e : Array Edge}
theorem r_callIZ {dst : Option Nat} {f b D Tb l : Nat} {vs : List Value} {tys : List Ty} {args : Nat → List Ty} {encs : List (List Ty)} {J : Nat → World → Tags → Prop} {Jx : World → Tags → Prop} (hJ : ∀ k, Cb (J k)) (hJx : Cb Jx) (hX : XB b D Tb vs J) (hY : Yld P l encs J Jx) (hI : CtrIZ P f b D Tb vs tys args encs)
    {h1 : depsOf tys = []} {h2 : cdepsOf tys = []} {xs : List Operand} {ats : Array TypeId} (hx : opsTy A fr xs = args l) (hd : depsOf (args l) = []) (hdc : cdepsOf (args l) = []) (ht : A.tag 7000 = some (.ck (hJ 0))) (htf : A.tag 4000 = some (Cont.fact tys vs h1 h2))
    (h : TOps P fr ops rest (A.after { d := dst, ty := Ty.any, S := [7000], sets := [(7000, Cont.ce (hJ encs.length) hJx)], rs := xs.flatMap opR, rt := [7000, 4000] }) fun A' l' => K A' ((A, { d := dst, ty := Ty.any, S := [7000], sets := [(7000, Cont.ce (hJ encs.length) hJx)], rs := xs.flatMap opR, rt := [7000, 4000] }) :: l')) :
    TOps P fr ops (⟨dst, .call ⟨.value (.func f), xs.toArray, ats⟩, t, p, e, none⟩ :: rest) A K := by
  refine ⟨_, ⟨rfl, by simp, by simp, by simp, fun a w M wf hsz hrd htg => ?_⟩, h⟩
  rw [if_pos (by simp [Region.wanted])]
  obtain ⟨_, Mc, wfc, z, hj, k1, k2⟩ := htg _ (tag_mem ht) (by simp)
  have hf : dens w M tys vs := htg _ (tag_mem htf) (by simp)
  have hv : dens w Mc (args l) (xs.map a.eval) := conv_nodeps k1 hd hdc (hx ▸ opsTy_dens (rs := xs.flatMap opR) hrd fun x hx c hc => List.mem_flatMap.2 ⟨x, hx, hc⟩)
  have hrun : (execOp a.eval ⟨dst, .call ⟨.value (.func f), xs.toArray, ats⟩, t, p, e, none⟩).run P w = .ok (.enter f (xs.map a.eval).toArray) w := by
    obtain ⟨⟨fn, hf, hn, hb⟩, _⟩ := hI
    have hn' : fn.name ≠ "runtime.NumGoroutine" := by simpa using hn
    have hb' : fn.body ≠ none := fun h => by rw [h] at hb; cases hb
    simp [execOp, resolve, Act.eval, Deferred.ofValue, invoke, callFunc, hf, hn', hb']
  refine wp_in_enter hrun ?_
  refine (hI.2 l J Jx hJ hJx hX hY w Mc _ wfc z hv (conv_nodeps k1 h1 h2 hf) hj).mono fun en w' ⟨r, Mc', he, wf', z', le, hor⟩ => ?_
  obtain ⟨g1, g2, g3, g4⟩ := backY_ok wf wf' k1 k2 le
  refine ⟨r, he, r, rfl, _, g1, g2, trivial, ?_⟩
  intro x hx
  rw [List.mem_singleton.1 hx]
  exact ⟨rfl, hor.imp (fun h => ⟨Mc', wf', z', h, g3, g4⟩) fun h => ⟨Mc', wf', z', h, g3, g4⟩⟩
theorem r_pkT {c y z : Operand} {ty : Ty} (hc : A.op fr c = .bool true) (hy : A.op fr y = ty)
    (h : TOps P fr ops rest (A.set d ty) fun A' l' => K A' ((A, { d := some d, ty := ty, rs := opR c ++ opR y }) :: l')) : TOps P fr ops (⟨some d, .pick c y z, t, p, e, none⟩ :: rest) A K :=
  tops_pure (opT_pure rfl rfl fun a w M _ hrd _ => by
    obtain ⟨hdc, hdy⟩ := op2 hrd
    rw [hc] at hdc; rw [hy] at hdy
    have ec : a.eval c = .bool true := hdc
    exact ⟨a.eval y, by simp only [execOp, ec]; simp [asBool], hdy⟩) h
theorem r_pkF {c y z : Operand} {ty : Ty} (hc : A.op fr c = .bool false) (hz : A.op fr z = ty)
    (h : TOps P fr ops rest (A.set d ty) fun A' l' => K A' ((A, { d := some d, ty := ty, rs := opR c ++ opR z }) :: l')) : TOps P fr ops (⟨some d, .pick c y z, t, p, e, none⟩ :: rest) A K :=
  tops_pure (opT_pure rfl rfl fun a w M _ hrd _ => by
    obtain ⟨hdc, hdz⟩ := op2 hrd
    rw [hc] at hdc; rw [hz] at hdz
    have ec : a.eval c = .bool false := hdc
    exact ⟨a.eval z, by simp only [execOp, ec]; simp [asBool], hdz⟩) h
theorem as_setB {s : Nat} {x y : Bool} (h : A.slots s = .bool x) (e : x = y) : A.set s (.bool y) = A := by
  subst e
  cases A with
  | mk f l =>
    simp only [As.set, As.mk.injEq, and_true]
    funext c
    by_cases e : c = s
    · subst e; simp only [Nat.beq_refl, cond_true]; exact h.symm
    · have : Nat.beq c s = false := by cases hb : Nat.beq c s with | false => rfl | true => exact absurd (Nat.eq_of_beq_eq_true hb) e
      simp only [this, cond_false]
theorem tri_asB {c : Code} {Q : Exit → Act → World → Prop} {s : Nat} {x y : Bool} (h : A.slots s = .bool x) (e : x = y) (hk : Tri P fr c (A.set s (.bool y)) Q) : Tri P fr c A Q := by
  rwa [as_setB h e] at hk
theorem tops_asB {s : Nat} {x y : Bool} (h : A.slots s = .bool x) (e : x = y) (hk : TOps P fr ops rest (A.set s (.bool y)) K) : TOps P fr ops rest A K := by
  rwa [as_setB h e] at hk
variable [T : Tab P]
theorem r_loadJA {x : Operand} {b D Tb off k : Nat} {vs : List Value} {tys : List Ty} {J : Nat → World → Tags → Prop} {hJ : ∀ k, Cb (J k)} {ti : TI} {l : List Ty} {h1 : depsOf tys = []} {h2 : cdepsOf tys = []} (hX : XB b D Tb vs J) (hx : A.op fr x = .ex (.pointer (some ⟨b, off, none⟩))) (ht : A.tag 7000 = some (.ck (hJ k))) (htf : A.tag 4000 = some (Cont.fact tys vs h1 h2)) (hT : T.tab[ty']? = some ti) (ha : ti.k.agg = true) (hl : (tys.drop off).take ti.size = l) (hn : l.length = ti.size)
    (h : TOps P fr ops rest (A.set d (.agg l)) fun A' l' => K A' ((A, { d := some d, ty := .agg l, rs := opR x, rt := [7000, 4000] }) :: l')) : TOps P fr ops (⟨some d, .load ty' x, t, p, e, none⟩ :: rest) A K :=
  tops_pure (opT_pure rfl rfl fun a w M wf hr htg => by
    have hdx := op_den (x := x) (fun _ h => h) hr
    rw [hx] at hdx
    have ex : a.eval x = .pointer (some ⟨b, off, none⟩) := hdx
    obtain ⟨_, Mc, wfc, z, hj, g1, g2⟩ := htg _ (tag_mem ht) (by simp)
    have hf : dens w M tys vs := htg _ (tag_mem htf) (by simp)
    obtain ⟨_, cs, hh, hcs⟩ := hX k w Mc wfc hj
    have hd : dens w M l ((vs.drop off).take ti.size) := hl ▸ dens_take _ (dens_drop _ hf)
    refine ⟨.agg ((vs.drop off).take ti.size).toArray, ?_, _, rfl, by simpa using hd⟩
    have hlen := dens_len hd
    have hload := run_loadN (P := P) hT ha (w := w) (b := b) (off := off) (hlen.trans hn) fun j v hj => by
      have hj' : vs[off + j]? = some v := by
        rw [List.getElem?_take] at hj
        split at hj
        · rwa [List.getElem?_drop] at hj
        · cases hj
      have := take_get hcs hj'
      simpa [World.cell?, hh] using this
    simp [execOp, ex, hload]) h
inductive TSegY (P : Program) (fr : Fr) (ops : Array Oper) (R : Act → World → Prop) : List Oper → As → Prop
  | last {l : List Oper} {A : As} (h : TOps P fr ops l A fun A' _ => Into fr A' R) : TSegY P fr ops R l A
  | split {l : List Oper} {A : As} (n : Nat) (B : As) (s : Nat) {b1 : Bool} {J1 Jx : World → Tags → Prop} {h1 : Cb J1} {hx : Cb Jx} (h : TOps P fr ops (l.take n) A fun A1 _ => Ent fr A1 B) (hs : B.slots s = .yb b1 h1 hx) (hn : Nat.blt s fr.n = true)
      (hf : TSegY P fr ops R (l.drop n) ⟨(B.set s (.bool b1)).slots, (7000, .ck h1) :: B.tags⟩) (ht : TSegY P fr ops R (l.drop n) ⟨(B.set s (.bool (!b1))).slots, (7000, .ck hx) :: B.tags⟩) : TSegY P fr ops R l A
theorem tsegY_run {P : Program} {fr : Fr} {ops : Array Oper} {Q : Exit → Act → World → Prop} {l : List Oper} {A : As} (h : TSegY P fr ops (Q .normal) l A) : ∀ {a : Act} {w : World}, A.holds fr a w → wpListIn fr.kd.fence 0 P ops Q l a w := by
  induction h with
  | last h => exact fun ha => tops_list _ _ _ _ _ h ha fun _ _ _ _ hk hA => hk _ _ hA
  | @split l A n B s b1 J1 Jx h1 hx h hs hn hf ht ihf iht =>
    intro a w ha
    have := tops_app (rest := l.drop n) (l.take n) A _ a w h ha fun A1 _ a w hE hA => by
      obtain ⟨M, ok, hsl, htg⟩ := hE.holds hA
      have hd := hsl s (by simpa using hn)
      rw [hs] at hd
      rcases hd with ⟨ev, hj⟩ | ⟨ev, hj⟩
      · refine ihf ⟨M, ok, fun c hc => ?_, fun x hx' => ?_⟩
        · by_cases e : c = s
          · subst e; simp only [As.set, Nat.beq_refl, cond_true]; exact ev
          · have : Nat.beq c s = false := by cases hb : Nat.beq c s with | false => rfl | true => exact absurd (Nat.eq_of_beq_eq_true hb) e
            simp only [As.set, this, cond_false]; exact hsl c hc
        · rcases List.mem_cons.1 hx' with rfl | hx'
          · exact ⟨rfl, hj⟩
          · exact htg x hx'
      · refine iht ⟨M, ok, fun c hc => ?_, fun x hx' => ?_⟩
        · by_cases e : c = s
          · subst e; simp only [As.set, Nat.beq_refl, cond_true]; exact ev
          · have : Nat.beq c s = false := by cases hb : Nat.beq c s with | false => rfl | true => exact absurd (Nat.eq_of_beq_eq_true hb) e
            simp only [As.set, this, cond_false]; exact hsl c hc
        · rcases List.mem_cons.1 hx' with rfl | hx'
          · exact ⟨rfl, hj⟩
          · exact htg x hx'
    rwa [List.take_append_drop] at this
theorem t_regionSY {P : Program} {fr : Fr} {A : As} {Q : Exit → Act → World → Prop} {id : Nat} {l : List Oper} (h : TSegY P fr l.toArray (Q .normal) l A) : Tri P fr (.region id l.toArray false) A Q := fun _ _ ha => wpIn_region_lit (tsegY_run h ha)
variable {Q : Exit → Act → World → Prop} {c : Code}
omit T in
theorem t_unnameR {α : Type} {E : El α} {v : Value} {D Tb tg : Nat} {xs : List α} {T : Nat} (l1 : List Ty) {l2 : List Ty} (hc : A.tag D = some (.cells Tb (l1 ++ Ty.ex v :: l2))) (hf : A.tag tg = some (Cont.rv v E T tg xs))
    (h : Tri P fr c ⟨A.slots, (D, .cells Tb (l1 ++ Ty.row E T tg xs :: l2)) :: A.tags.filter fun x => !(x.1 == D)⟩ Q) : Tri P fr c A Q := by
  intro a w ⟨M, ok, hsl, htg⟩
  obtain ⟨b, cs, hb, hh, hd⟩ := htg _ (tag_mem hc)
  have hr : (Ty.row E T tg xs).den w M v := htg _ (tag_mem hf)
  refine h a w ⟨M, ok, hsl, fun x hx => ?_⟩
  rcases List.mem_cons.1 hx with rfl | hx
  · obtain ⟨v1, v2, e, d1, d2⟩ := dens_cutX hd
    match v2, d2 with
    | u :: v2, ⟨h1, h2⟩ =>
      have h1 : u = v := h1
      subst h1
      exact ⟨b, cs, hb, hh, by rw [e]; exact dens_append d1 ⟨hr, h2⟩⟩
  · exact htg x (List.mem_filter.1 hx).1
end
end Go.T

namespace Go.Proofs.YtjjndkenddigiaaGreatDoor
open Go Go.T
set_option maxHeartbeats 2000000
attribute [local irreducible] figC cntF blkF canR moK
attribute [local irreducible] dInt dBool dSl dPp dPtr dAgg dTup dClo dAny dEx dStr dGd dCells dVec dVs dRow dOp nth Tri Into TOps Ctr bodyPost Exit.then Exit.inBlock Code.wp Code.wpIn dPa dArr dMp dMap CtrG keepPost iterPost bodyPostM roundQ
set_option maxRecDepth 100000 in
theorem c_figures (f : BForm) (p : Rdr) (ho : RdrOk f p) (hb : p.begun = true) (v : Value) (b D : Nat) (vs : List Value) : CtrIZ Tryz.prog 152 b D 177 vs (rdrN f p v) (fun l => [Ty.ex (.pointer (some ⟨b, 0, none⟩)), Ty.ex (yv l)]) ((figC f p).map u8Enc) := by
  refine fnIZ_intro rfl rfl Tryz.func152 rfl (by decide) Tryz.ntmps152 (fun _ => by exact Nat.le_of_ble_eq_true rfl) (fun _ => ⟨rfl, rfl⟩) fun l J Jx hJ hJx hX hY w0 Mc wf0 z0 => ?_
  obtain ⟨h1, h2, h3, h4, h5, h6, h7, h8⟩ := ho.beg hb
  have hc0 := ho.c0
  have hw := ho.widB hb
  have ho0 := ho.o0
  refine t_seq ?_
  refine t_draw mixed rfl ?_
  refine mvX rfl ?_
  refine r_nilCheckX rfl ?_
  refine r_fieldX rfl rfl rfl rfl rfl (by decide) ?_
  refine r_fieldX rfl rfl rfl rfl rfl (by decide) ?_
  refine r_loadJ hX rfl rfl rfl rfl rfl rfl ?_
  refine mvX rfl ?_
  refine r_nilCheckX rfl ?_
  refine r_fieldX rfl rfl rfl rfl rfl (by decide) ?_
  refine r_fieldX rfl rfl rfl rfl rfl (by decide) ?_
  refine r_loadJ hX rfl rfl rfl rfl rfl rfl ?_
  refine mvX rfl ?_
  refine r_nilCheckX rfl ?_
  refine r_fieldX rfl rfl rfl rfl rfl (by decide) ?_
  refine r_fieldX rfl rfl rfl rfl rfl (by decide) ?_
  refine r_loadJ hX rfl rfl rfl rfl rfl rfl ?_
  refine r_index_sl rfl rfl rfl rfl rfl rfl (by omega) (by omega) ?_
  refine r_load_pp rfl rfl rfl rfl ?_
  refine r_sub rfl rfl (by omega) (by omega) ?_
  refine r_bin rfl rfl rfl ?_
  refine asB rfl ?_
  refine r_nil ?_
  refine ⟨by kernel_rfl, ?_⟩
  refine i_then ?_
  refine t_join (J := live [(0, Ty.ex (.pointer (some ⟨b, 0, none⟩))), (1, Ty.ex (yv l)), (4, Ty.bool (lastB f p))] [(7000, Cont.ck (hJ (blkF f p))), (4000, Cont.fact (rdrN f p v) vs rfl rfl), (5000, Cont.snap w0 (oldZ Mc))]) ?_ ?_
  ·
    refine t_seq ?_
    refine t_region ?_
    refine mvX rfl ?_
    refine r_nilCheckX rfl ?_
    refine r_fieldX rfl rfl rfl rfl rfl (by decide) ?_
    refine r_fieldX rfl rfl rfl rfl rfl (by decide) ?_
    refine r_loadJ hX rfl rfl rfl rfl rfl rfl ?_
    refine r_not rfl ?_
    refine mvB rfl ?_
    apply r_guard (s := 31) rfl rfl rfl
    · intro hg; apply opT_of; (refine mvB rfl ?_); refine r_nil ?_; exact rfl
    · exact rfl
    · exact rfl
    apply r_guard (s := 31) rfl rfl rfl
    · intro hg; apply opT_strip (s := 32) rfl (by (rw [hg]; rfl)); apply opT_of; (refine r_not rfl ?_); refine r_nil ?_; exact rfl
    · exact rfl
    · exact rfl
    refine r_and rfl rfl ?_
    refine mvB rfl ?_
    cases hsp : (blkB f p)
    ·
      refine tops_asB (s := 35) rfl hsp ?_
      refine r_off rfl rfl rfl rfl ?_
      refine r_off rfl rfl rfl rfl ?_
      refine r_off rfl rfl rfl rfl ?_
      refine r_pkF rfl rfl ?_
      refine r_nil ?_
      refine i_then ?_
      refine t_cond rfl (fun hc1 => ?_) (fun hc1 => ?_)
      ·
        refine t_ret ?_
        refine i_then_ret ?_
        (exfalso; contradiction)
      ·
        refine t_skip ?_
        refine i_join ?_
        (refine Ent.mk' ?_ ?_ <;> (repeat' (first | exact allSub_zero | exact allTags_nil | refine allSub_succ' ?_ (Ty.sub_any _) | refine allSub_succ' ?_ (Ty.sub_refl _) | refine allTags_cons rfl (Cont.sub_refl _) ?_ | refine allTags_cons rfl ?_ ?_)))
        all_goals exact ck_eq hJ (ck_off hsp)
    ·
      refine tops_asB (s := 35) rfl hsp ?_
      (refine r_on rfl rfl rfl (by apply opT_of; (refine mvX rfl ?_); refine r_nil ?_; exact rfl) ?_)
      (refine r_on rfl rfl rfl (by apply opT_of; (refine r_yieldY hJ hJx hY rfl rfl rfl rfl rfl (u8_get (figC_blank hsp) rfl) rfl ?_); refine r_nil ?_; exact rfl) ?_)
      (refine r_on rfl rfl rfl (by apply opT_of; (refine r_notY (h1 := hJ _) (hx := hJx) rfl ?_); refine r_nil ?_; exact rfl) ?_)
      refine r_pkT rfl rfl ?_
      refine r_nil ?_
      refine i_then ?_
      refine t_condY (h1 := hJ _) (hx := hJx) rfl ?_ ?_
      ·
        refine t_ret ?_
        refine i_then_ret ?_
        exact i_retZx z0 wf0 rfl rfl rfl
      ·
        refine t_skip ?_
        refine i_join ?_
        (refine Ent.mk' ?_ ?_ <;> (repeat' (first | exact allSub_zero | exact allTags_nil | refine allSub_succ' ?_ (Ty.sub_any _) | refine allSub_succ' ?_ (Ty.sub_refl _) | refine allTags_cons rfl (Cont.sub_refl _) ?_ | refine allTags_cons rfl ?_ ?_)))
        all_goals exact ck_eq hJ (ck_on hsp)
  ·
    refine t_seq ?_
    refine t_region ?_
    refine asI rfl ?_
    refine r_nil ?_
    refine i_then ?_
    refine t_block ?_
    refine t_loop (fun (i : {i : Nat // i ≤ 10}) => live [(0, Ty.ex (.pointer (some ⟨b, 0, none⟩))), (1, Ty.ex (yv l)), (4, Ty.bool (lastB f p)), (5, Ty.int .u8 (48 + (i.1 : Nat) : Int))] [(7000, Cont.ck (hJ (blkF f p + cntF (ctnB f p) i.1))), (4000, Cont.fact (rdrN f p v) vs rfl rfl), (5000, Cont.snap w0 (oldZ Mc))]) (fun i => 10 - i.1) (⟨0, by omega⟩) ?_ fun i => ?_
    · (refine Ent.mk' ?_ ?_ <;> (repeat' (first | exact allSub_zero | exact allTags_nil | refine allSub_succ' ?_ (Ty.sub_any _) | refine allSub_succ' ?_ (Ty.sub_refl _) | refine allTags_cons rfl (Cont.sub_refl _) ?_ | refine allTags_cons rfl ?_ ?_)))
      all_goals exact ck_eq hJ ck_beg
    ·
      have hi := i.2
      refine t_seq ?_
      refine t_seq ?_
      refine t_region ?_
      refine mvI rfl ?_
      refine r_bin rfl rfl rfl ?_
      refine r_nil ?_
      refine i_then ?_
      refine t_cond_dec rfl (fun hc3 => ?_) (fun hc3 => ?_)
      ·
        refine t_skip ?_
        refine i_then ?_
        refine t_seq ?_
        refine t_block ?_
        refine t_seq ?_
        refine t_region ?_
        refine mvI rfl ?_
        refine r_bin rfl rfl rfl ?_
        refine mvB rfl ?_
        apply r_guard (s := 46) rfl rfl rfl
        · intro hg; apply opT_of; (refine mvX rfl ?_); refine r_nil ?_; exact rfl
        · exact rfl
        · exact rfl
        apply r_guard (s := 46) rfl rfl rfl
        · intro hg; apply opT_strip (s := 47) rfl (by (rw [hg]; rfl)); apply opT_of; (refine r_nilCheckX rfl ?_); refine r_nil ?_; exact rfl
        · exact rfl
        · exact rfl
        apply r_guard (s := 46) rfl rfl rfl
        · intro hg; apply opT_strip (s := 48) rfl (by (rw [hg]; rfl)); apply opT_of; (refine r_fieldX rfl rfl rfl rfl rfl (by decide) ?_); refine r_nil ?_; exact rfl
        · exact rfl
        · exact rfl
        apply r_guard (s := 46) rfl rfl rfl
        · intro hg; apply opT_strip (s := 49) rfl (by (rw [hg]; rfl)); apply opT_of; (refine r_fieldX rfl rfl rfl rfl rfl (by decide) ?_); refine r_nil ?_; exact rfl
        · exact rfl
        · exact rfl
        apply r_guard (s := 46) rfl rfl rfl
        · intro hg; apply opT_strip (s := 50) rfl (by (rw [hg]; rfl)); apply opT_of; (refine r_loadJ hX rfl rfl rfl rfl rfl rfl ?_); refine r_nil ?_; exact rfl
        · exact rfl
        · exact rfl
        refine r_or rfl rfl ?_
        refine mvB rfl ?_
        apply r_guard (s := 53) rfl rfl rfl
        · intro hg; apply opT_of; (refine mvB rfl ?_); refine r_nil ?_; exact rfl
        · exact rfl
        · exact rfl
        refine r_or rfl rfl ?_
        refine mvB rfl ?_
        cases hsp : (decide (0 < i.1) || ctnB f p)
        ·
          refine tops_asB (s := 56) rfl (ctn_at hsp) ?_
          refine r_off rfl rfl rfl rfl ?_
          refine r_off rfl rfl rfl rfl ?_
          refine r_off rfl rfl rfl rfl ?_
          refine r_off rfl rfl rfl rfl ?_
          refine r_pkF rfl rfl ?_
          refine r_nil ?_
          refine i_then ?_
          refine t_cond rfl (fun hc4 => ?_) (fun hc4 => ?_)
          ·
            refine t_ret ?_
            refine i_block_ret ?_
            refine i_then_ret ?_
            refine i_then_ret ?_
            refine i_block_ret ?_
            (exfalso; contradiction)
          ·
            refine t_skip ?_
            refine i_block ?_
            refine i_then ?_
            refine t_region ?_
            refine mvI rfl ?_
            refine r_bin rfl rfl rfl ?_
            refine asI rfl ?_
            refine r_nil ?_
            refine i_round (⟨i.1 + 1, by omega⟩) ?_ (by show 10 - (i.1 + 1) < 10 - i.1; omega)
            (refine Ent.mk' ?_ ?_ <;> (repeat' (first | exact allSub_zero | exact allTags_nil | refine allSub_succ' ?_ (Ty.sub_any _) | refine allSub_succ' ?_ (Ty.sub_refl _) | refine allTags_cons rfl (Cont.sub_refl _) ?_ | refine allTags_cons rfl ?_ ?_ | refine allSub_succ' ?_ ?_)))
            all_goals skip
            all_goals first | exact ck_eq hJ (ck_no hsp) | exact Ty.sub_int (u8_next (by assumption))
        ·
          refine tops_asB (s := 56) rfl (ctn_at hsp) ?_
          (refine r_on rfl rfl rfl (by apply opT_of; (refine mvX rfl ?_); refine r_nil ?_; exact rfl) ?_)
          (refine r_on rfl rfl rfl (by apply opT_of; (refine mvI rfl ?_); refine r_nil ?_; exact rfl) ?_)
          (refine r_on rfl rfl rfl (by apply opT_of; (refine r_yieldY hJ hJx hY rfl rfl rfl rfl rfl (u8_get (figC_get (by omega) hsp) (fig_val (by omega))) rfl ?_); refine r_nil ?_; exact rfl) ?_)
          (refine r_on rfl rfl rfl (by apply opT_of; (refine r_notY (h1 := hJ _) (hx := hJx) rfl ?_); refine r_nil ?_; exact rfl) ?_)
          refine r_pkT rfl rfl ?_
          refine r_nil ?_
          refine i_then ?_
          refine t_condY (h1 := hJ _) (hx := hJx) rfl ?_ ?_
          ·
            refine t_ret ?_
            refine i_block_ret ?_
            refine i_then_ret ?_
            refine i_then_ret ?_
            refine i_block_ret ?_
            exact i_retZx z0 wf0 rfl rfl rfl
          ·
            refine t_skip ?_
            refine i_block ?_
            refine i_then ?_
            refine t_region ?_
            refine mvI rfl ?_
            refine r_bin rfl rfl rfl ?_
            refine asI rfl ?_
            refine r_nil ?_
            refine i_round (⟨i.1 + 1, by omega⟩) ?_ (by show 10 - (i.1 + 1) < 10 - i.1; omega)
            (refine Ent.mk' ?_ ?_ <;> (repeat' (first | exact allSub_zero | exact allTags_nil | refine allSub_succ' ?_ (Ty.sub_any _) | refine allSub_succ' ?_ (Ty.sub_refl _) | refine allTags_cons rfl (Cont.sub_refl _) ?_ | refine allTags_cons rfl ?_ ?_ | refine allSub_succ' ?_ ?_)))
            all_goals skip
            all_goals first | exact ck_eq hJ (ck_yes hsp) | exact Ty.sub_int (u8_next (by assumption))
      ·
        refine t_exit ?_
        refine i_then_exit ?_
        refine i_then_exit ?_
        refine i_block_exit rfl ?_
        exact i_retZ0 (hJ := hJ) z0 wf0 (by rw [List.length_map, figC_len, show i.1 = 10 by omega]) rfl rfl rfl
set_option maxRecDepth 100000 in
theorem c_can1 (f : BForm) (p : Rdr) (ho : RdrOk f p) (v : Value) (b D : Nat) (vs : List Value) : CtrIX Tryz.prog 151 b D 177 vs (rdrN f p v) (fun l => [Ty.ex (yv l), Ty.pp [Ty.ex (.pointer (some ⟨b, 0, none⟩))]]) ((canR f p).map u8Enc) (Ty.tup []) (Ty.tup []) := by
  refine fnIX_intro rfl rfl Tryz.func151 rfl (by decide) Tryz.ntmps151 (fun _ => by exact Nat.le_of_ble_eq_true rfl) (fun _ => ⟨rfl, rfl⟩) fun l J Jx hJ hJx hX hY w0 M0 => ?_
  refine t_block ?_
  refine t_seq ?_
  refine t_region ?_
  refine r_load_pp rfl rfl rfl rfl ?_
  refine r_nilCheckX rfl ?_
  refine r_fieldX rfl rfl rfl rfl rfl (by decide) ?_
  refine r_loadJ hX rfl rfl rfl rfl rfl rfl ?_
  refine r_neqS rfl rfl ?_
  refine asB rfl ?_
  refine r_nil ?_
  refine i_then ?_
  refine t_cond_ndec rfl (fun hc1 => ?_) (fun hc1 => ?_)
  ·
    have hl := List.length_pos_iff.2 hc1
    refine t_region ?_
    refine mvX rfl ?_
    refine r_load_pp rfl rfl rfl rfl ?_
    refine r_nilCheckX rfl ?_
    refine r_fieldX rfl rfl rfl rfl rfl (by decide) ?_
    refine r_loadJ hX rfl rfl rfl rfl rfl rfl ?_
    refine r_idxS (i := 0) rfl rfl rfl rfl hl ?_
    refine r_yieldY hJ hJx hY rfl rfl rfl rfl rfl (u8_get (must_0 hc1) rfl) rfl ?_
    refine r_nil ?_
    refine i_block ?_
    exact i_retXY (s := 62) (hJ := hJ) (hx := hJx) (must_1 hc1) rfl rfl rfl
  ·
    refine t_seq ?_
    refine t_region ?_
    refine r_load_pp rfl rfl rfl rfl ?_
    refine r_nilCheckX rfl ?_
    refine r_fieldX rfl rfl rfl rfl rfl (by decide) ?_
    refine r_fieldX rfl rfl rfl rfl rfl (by decide) ?_
    refine r_loadJ hX rfl rfl rfl rfl rfl rfl ?_
    refine asB rfl ?_
    refine r_nil ?_
    refine i_then ?_
    refine t_cond rfl (fun hc2 => ?_) (fun hc2 => ?_)
    ·
      refine t_region ?_
      refine r_load_pp rfl rfl rfl rfl ?_
      refine mvX rfl ?_
      refine r_callIZ hJ hJx hX (can_begun hc1 hc2 ▸ hY) (c_figures f p ho hc2 v b D vs) rfl rfl rfl rfl rfl ?_
      refine r_nil ?_
      refine i_block ?_
      exact i_retXe (hJ := hJ) (hx := hJx) (beg_n hc1 hc2) rfl rfl
    ·
      refine t_seq ?_
      refine t_region ?_
      refine r_load_pp rfl rfl rfl rfl ?_
      refine r_nilCheckX rfl ?_
      refine r_fieldX rfl rfl rfl rfl rfl (by decide) ?_
      refine r_fieldX rfl rfl rfl rfl rfl (by decide) ?_
      refine r_loadJ hX rfl rfl rfl rfl rfl rfl ?_
      refine asB rfl ?_
      refine r_nil ?_
      refine i_then ?_
      refine t_cond rfl (fun hc3 => ?_) (fun hc3 => ?_)
      ·
        refine t_seq ?_
        refine t_draw mixed rfl ?_
        refine r_load_pp rfl rfl rfl rfl ?_
        refine r_nilCheckX rfl ?_
        refine r_fieldX rfl rfl rfl rfl rfl (by decide) ?_
        refine r_fieldX rfl rfl rfl rfl rfl (by decide) ?_
        refine r_loadJ hX rfl rfl rfl rfl rfl rfl ?_
        refine r_load_pp rfl rfl rfl rfl ?_
        refine r_nilCheckX rfl ?_
        refine r_fieldX rfl rfl rfl rfl rfl (by decide) ?_
        refine r_fieldX rfl rfl rfl rfl rfl (by decide) ?_
        refine r_loadJ hX rfl rfl rfl rfl rfl rfl ?_
        refine r_bin rfl rfl rfl ?_
        refine mvB rfl ?_
        apply r_guard (s := 89) rfl rfl rfl
        · intro hg; apply opT_of; (refine r_load_pp rfl rfl rfl rfl ?_); refine r_nil ?_; exact rfl
        · exact rfl
        · exact rfl
        apply r_guard (s := 89) rfl rfl rfl
        · intro hg; apply opT_strip (s := 90) rfl (by (rw [hg]; rfl)); apply opT_of; (refine r_nilCheckX rfl ?_); refine r_nil ?_; exact rfl
        · exact rfl
        · exact rfl
        apply r_guard (s := 89) rfl rfl rfl
        · intro hg; apply opT_strip (s := 91) rfl (by (rw [hg]; rfl)); apply opT_of; (refine r_fieldX rfl rfl rfl rfl rfl (by decide) ?_); refine r_nil ?_; exact rfl
        · exact rfl
        · exact rfl
        apply r_guard (s := 89) rfl rfl rfl
        · intro hg; apply opT_strip (s := 92) rfl (by (rw [hg]; rfl)); apply opT_of; (refine r_fieldX rfl rfl rfl rfl rfl (by decide) ?_); refine r_nil ?_; exact rfl
        · exact rfl
        · exact rfl
        apply r_guard (s := 89) rfl rfl rfl
        · intro hg; apply opT_strip (s := 93) rfl (by (rw [hg]; rfl)); apply opT_of; (refine r_loadJ hX rfl rfl rfl rfl rfl rfl ?_); refine r_nil ?_; exact rfl
        · exact rfl
        · exact rfl
        apply r_guard (s := 89) rfl rfl rfl
        · intro hg; apply opT_strip (s := 94) rfl (by (rw [hg]; rfl)); apply opT_of; (refine r_bin rfl rfl rfl ?_); refine r_nil ?_; exact rfl
        · exact rfl
        · exact rfl
        refine r_and rfl rfl ?_
        refine r_nil ?_
        refine ⟨by kernel_rfl, ?_⟩
        refine i_then ?_
        refine t_cond rfl (fun hc4 => ?_) (fun hc4 => ?_)
        ·
          refine t_region ?_
          refine mvX rfl ?_
          refine r_yieldY hJ hJx hY rfl rfl rfl rfl rfl (u8_get (cl_0 hc1 hc2 hc3 hc4) rfl) rfl ?_
          refine r_nil ?_
          refine i_block ?_
          exact i_retXY (s := 98) (hJ := hJ) (hx := hJx) (cl_yes hc1 hc2 hc3 hc4) rfl rfl rfl
        ·
          refine t_skip ?_
          refine i_block ?_
          exact i_retX0e (hJ := hJ) (cl_no hc1 hc2 hc3 hc4) rfl rfl
      ·
        refine t_seq ?_
        refine t_draw mixed rfl ?_
        refine r_load_pp rfl rfl rfl rfl ?_
        refine r_nilCheckX rfl ?_
        refine r_fieldX rfl rfl rfl rfl rfl (by decide) ?_
        refine r_fieldX rfl rfl rfl rfl rfl (by decide) ?_
        refine r_loadJ hX rfl rfl rfl rfl rfl rfl ?_
        refine r_load_pp rfl rfl rfl rfl ?_
        refine r_nilCheckX rfl ?_
        refine r_fieldX rfl rfl rfl rfl rfl (by decide) ?_
        refine r_fieldX rfl rfl rfl rfl rfl (by decide) ?_
        refine r_loadJ hX rfl rfl rfl rfl rfl rfl ?_
        refine r_bin rfl rfl rfl ?_
        refine mvB rfl ?_
        apply r_guard (s := 15) rfl rfl rfl
        · intro hg; apply opT_of; (refine r_load_pp rfl rfl rfl rfl ?_); refine r_nil ?_; exact rfl
        · exact rfl
        · exact rfl
        apply r_guard (s := 15) rfl rfl rfl
        · intro hg; apply opT_strip (s := 16) rfl (by (rw [hg]; rfl)); apply opT_of; (refine r_nilCheckX rfl ?_); refine r_nil ?_; exact rfl
        · exact rfl
        · exact rfl
        apply r_guard (s := 15) rfl rfl rfl
        · intro hg; apply opT_strip (s := 17) rfl (by (rw [hg]; rfl)); apply opT_of; (refine r_fieldX rfl rfl rfl rfl rfl (by decide) ?_); refine r_nil ?_; exact rfl
        · exact rfl
        · exact rfl
        apply r_guard (s := 15) rfl rfl rfl
        · intro hg; apply opT_strip (s := 18) rfl (by (rw [hg]; rfl)); apply opT_of; (refine r_fieldX rfl rfl rfl rfl rfl (by decide) ?_); refine r_nil ?_; exact rfl
        · exact rfl
        · exact rfl
        apply r_guard (s := 15) rfl rfl rfl
        · intro hg; apply opT_strip (s := 19) rfl (by (rw [hg]; rfl)); apply opT_of; (refine r_loadJ hX rfl rfl rfl rfl rfl rfl ?_); refine r_nil ?_; exact rfl
        · exact rfl
        · exact rfl
        apply r_guard (s := 15) rfl rfl rfl
        · intro hg; apply opT_strip (s := 20) rfl (by (rw [hg]; rfl)); apply opT_of; (refine r_bin rfl rfl rfl ?_); refine r_nil ?_; exact rfl
        · exact rfl
        · exact rfl
        refine r_and rfl rfl ?_
        refine asB rfl ?_
        refine r_nil ?_
        refine ⟨by kernel_rfl, ?_⟩
        refine i_then ?_
        refine t_join (J := live [(0, Ty.ex (yv l)), (1, Ty.pp [Ty.ex (.pointer (some ⟨b, 0, none⟩))])] [(7000, Cont.ck (hJ (moK f p))), (4000, Cont.fact (rdrN f p v) vs rfl rfl)]) ?_ ?_
        ·
          refine t_seq ?_
          cases hsp : (moB f p)
          ·
            refine tri_asB (s := 3) rfl hsp ?_
            refine t_region ?_
            refine mvB rfl ?_
            refine mvB rfl ?_
            refine r_off rfl rfl rfl rfl ?_
            refine r_off rfl rfl rfl rfl ?_
            refine r_off rfl rfl rfl rfl ?_
            refine r_off rfl rfl rfl rfl ?_
            refine r_offU rfl rfl rfl ?_
            refine r_offU rfl rfl rfl ?_
            refine r_offU rfl rfl rfl ?_
            refine r_off rfl rfl rfl rfl ?_
            refine r_pkF rfl rfl ?_
            refine r_nil ?_
            refine i_then ?_
            refine t_cond rfl (fun hc5 => ?_) (fun hc5 => ?_)
            ·
              refine t_ret ?_
              refine i_then_ret ?_
              refine i_block_ret ?_
              (exfalso; contradiction)
            ·
              refine t_skip ?_
              refine i_join ?_
              (refine Ent.mk' ?_ ?_ <;> (repeat' (first | exact allSub_zero | exact allTags_nil | refine allSub_succ' ?_ (Ty.sub_any _) | refine allSub_succ' ?_ (Ty.sub_refl _) | refine allTags_cons rfl (Cont.sub_refl _) ?_ | refine allTags_cons rfl ?_ ?_)))
              all_goals exact ck_eq hJ (mo_off hsp)
          ·
            refine tri_asB (s := 3) rfl hsp ?_
            refine t_regionSY ?_
            refine TSegY.split 6 (live [(0, Ty.ex (yv l)), (1, Ty.pp [Ty.ex (.pointer (some ⟨b, 0, none⟩))]), (24, Ty.bool true), (28, Ty.yb false (hJ (0 + 1)) hJx)] [(4000, Cont.fact (rdrN f p v) vs rfl rfl)]) 28 (b1 := false) (h1 := hJ 1) (hx := hJx) ?_ rfl rfl ?_ ?_
            ·
              refine mvB rfl ?_
              refine mvB rfl ?_
              (refine r_on rfl rfl rfl (by apply opT_of; (refine mvX rfl ?_); refine r_nil ?_; exact rfl) ?_)
              (refine r_on rfl rfl rfl (by apply opT_of; (refine r_yieldY hJ hJx hY rfl rfl rfl rfl rfl (u8_get (mo_0 hc1 hc2 hc3 hsp) rfl) rfl ?_); refine r_nil ?_; exact rfl) ?_)
              (refine r_on rfl rfl rfl (by apply opT_of; (refine r_notY (h1 := hJ _) (hx := hJx) rfl ?_); refine r_nil ?_; exact rfl) ?_)
              (refine r_on rfl rfl rfl (by apply opT_of; (refine r_move rfl ?_); refine r_nil ?_; exact rfl) ?_)
              refine r_nil ?_
              (refine Ent.mk' ?_ ?_ <;> (repeat' (first | exact allSub_zero | exact allTags_nil | refine allSub_succ' ?_ (Ty.sub_any _) | refine allSub_succ' ?_ (Ty.sub_refl _) | refine allTags_cons rfl (Cont.sub_refl _) ?_)))
            ·
              refine TSegY.last ?_
              (refine r_on rfl rfl rfl (by apply opT_of; (refine mvX rfl ?_); refine r_nil ?_; exact rfl) ?_)
              (refine r_on rfl rfl rfl (by apply opT_of; (refine r_yieldY hJ hJx hY rfl rfl rfl rfl rfl (u8_get (mo_1 hc1 hc2 hc3 hsp) rfl) rfl ?_); refine r_nil ?_; exact rfl) ?_)
              (refine r_on rfl rfl rfl (by apply opT_of; (refine r_notY (h1 := hJ _) (hx := hJx) rfl ?_); refine r_nil ?_; exact rfl) ?_)
              (refine r_on rfl rfl rfl (by apply opT_of; (refine r_pkF rfl rfl ?_); refine r_nil ?_; exact rfl) ?_)
              refine r_pkT rfl rfl ?_
              refine r_nil ?_
              refine i_then ?_
              refine t_condY (h1 := hJ _) (hx := hJx) rfl ?_ ?_
              ·
                refine t_ret ?_
                refine i_then_ret ?_
                refine i_block_ret ?_
                exact i_retXx rfl rfl
              ·
                refine t_skip ?_
                refine i_join ?_
                (refine Ent.mk' ?_ ?_ <;> (repeat' (first | exact allSub_zero | exact allTags_nil | refine allSub_succ' ?_ (Ty.sub_any _) | refine allSub_succ' ?_ (Ty.sub_refl _) | refine allTags_cons rfl (Cont.sub_refl _) ?_ | refine allTags_cons rfl ?_ ?_)))
                all_goals exact ck_eq hJ (mo_on hsp)
            ·
              refine TSegY.last ?_
              refine r_off rfl rfl rfl rfl ?_
              refine r_off rfl rfl rfl rfl ?_
              refine r_off rfl rfl rfl rfl ?_
              (refine r_on rfl rfl rfl (by apply opT_of; (refine r_pkT rfl rfl ?_); refine r_nil ?_; exact rfl) ?_)
              refine r_pkT rfl rfl ?_
              refine r_nil ?_
              refine i_then ?_
              refine t_cond rfl (fun hc7 => ?_) (fun hc7 => ?_)
              ·
                refine t_ret ?_
                refine i_then_ret ?_
                refine i_block_ret ?_
                exact i_retXx rfl rfl
              ·
                refine t_skip ?_
                refine i_join ?_
                (refine Ent.mk' ?_ ?_ <;> (repeat' (first | exact allSub_zero | exact allTags_nil | refine allSub_succ' ?_ (Ty.sub_any _) | refine allSub_succ' ?_ (Ty.sub_refl _) | refine allTags_cons rfl (Cont.sub_refl _) ?_ | refine allTags_cons rfl ?_ ?_)))
                all_goals (exfalso; contradiction)
        ·
          refine t_seq ?_
          refine t_region ?_
          refine r_load_pp rfl rfl rfl rfl ?_
          refine r_nilCheckX rfl ?_
          refine r_fieldX rfl rfl rfl rfl rfl (by decide) ?_
          refine r_fieldX rfl rfl rfl rfl rfl (by decide) ?_
          refine r_loadJ hX rfl rfl rfl rfl rfl rfl ?_
          refine r_bin rfl rfl rfl ?_
          refine mvB rfl ?_
          apply r_guard (s := 40) rfl rfl rfl
          · intro hg; apply opT_of; (refine r_load_pp rfl rfl rfl rfl ?_); refine r_nil ?_; exact rfl
          · exact rfl
          · exact rfl
          apply r_guard (s := 40) rfl rfl rfl
          · intro hg; apply opT_strip (s := 41) rfl (by (rw [hg]; rfl)); apply opT_of; (refine r_nilCheckX rfl ?_); refine r_nil ?_; exact rfl
          · exact rfl
          · exact rfl
          apply r_guard (s := 40) rfl rfl rfl
          · intro hg; apply opT_strip (s := 42) rfl (by (rw [hg]; rfl)); apply opT_of; (refine r_fieldX rfl rfl rfl rfl rfl (by decide) ?_); refine r_nil ?_; exact rfl
          · exact rfl
          · exact rfl
          apply r_guard (s := 40) rfl rfl rfl
          · intro hg; apply opT_strip (s := 43) rfl (by (rw [hg]; rfl)); apply opT_of; (refine r_loadJA hX rfl rfl rfl rfl rfl rfl rfl ?_); refine r_nil ?_; exact rfl
          · exact rfl
          · exact rfl
          apply r_guard (s := 40) rfl rfl rfl
          · intro hg; apply opT_of; (refine r_build rfl rfl (by exact List.cons_ne_nil _ _) rfl (by repeat (exact (Parts.nil : Parts _ _ [] _))) (by exact rfl) ?_); refine r_nil ?_; exact rfl
          · exact rfl
          · exact rfl
          apply r_guard (s := 40) rfl rfl rfl
          · intro hg; apply opT_strip (s := 44) rfl (by (rw [hg]; rfl)); apply opT_strip (s := 45) rfl (by (rw [hg]; rfl)); apply opT_of; (refine r_eql_A (eqtPlace p.rows p.page p.begun p.closed p.column p.offset p.number p.digits 0 0 false false 0 0 0 false) rfl rfl ?_); refine r_nil ?_; exact rfl
          · exact rfl
          · exact rfl
          refine r_or rfl rfl ?_
          refine r_nil ?_
          refine i_then ?_
          refine t_cond rfl (fun hc8 => ?_) (fun hc8 => ?_)
          ·
            refine t_region ?_
            refine mvX rfl ?_
            refine r_yieldY hJ hJx hY rfl rfl rfl rfl rfl (u8_get (mo_2 hc1 hc2 hc3 hc8) rfl) rfl ?_
            refine r_nil ?_
            refine i_block ?_
            exact i_retXY (s := 49) (hJ := hJ) (hx := hJx) (mo_yes hc1 hc2 hc3 hc8) rfl rfl rfl
          ·
            refine t_skip ?_
            refine i_block ?_
            exact i_retX0e (hJ := hJ) (mo_no hc1 hc2 hc3 hc8) rfl rfl
end Go.Proofs.YtjjndkenddigiaaGreatDoor

namespace Go.Proofs.YtjjndkenddigiaaGreatDoor
open Go Go.T
def numF (p : Rdr) (c : UInt8) : Int := if c ≠ 32 then 10 * p.number + ((c.toNat : Int) - 48) else p.number
def digF' (p : Rdr) (c : UInt8) : Bool := p.digits || decide (c ≠ 32)
theorem figs_mem {a : Bool} {c : UInt8} (h : c ∈ figs a) : 48 ≤ c.toNat ∧ c.toNat ≤ 57 := by
  unfold figs at h
  obtain ⟨k, hk, rfl⟩ := List.mem_map.1 h
  have := List.mem_range.1 (List.mem_filter.1 hk).1
  rw [UInt8.toNat_ofNat']; omega
theorem figC_mem {f : BForm} {p : Rdr} {c : UInt8} (h : c ∈ figC f p) : (c = 32 ∧ p.digits = false) ∨ (c ≠ 32 ∧ 48 ≤ c.toNat ∧ c.toNat ≤ 57) := by
  rw [figC_eq] at h
  rcases List.mem_append.1 h with h | h
  · split at h
    · rename_i hb
      refine .inl ⟨List.mem_singleton.1 h, ?_⟩
      unfold blkB at hb; cases hd : p.digits <;> simp [hd] at hb ⊢
    · cases h
  · have := figs_mem h
    exact .inr ⟨fun e => by subst e; exact absurd this.1 (by decide), this⟩
theorem ten_next {w : Int} (h : 0 ≤ w) : ten (w + 1) = 10 * ten w := by
  have := ten_succ w.toNat
  rw [show ((w.toNat + 1 : Nat) : Int) = w + 1 by omega, show ((w.toNat : Nat) : Int) = w by omega] at this
  exact this
theorem num_bnd {f : BForm} {p : Rdr} (ho : RdrOk f p) (hb : p.begun = true) {c : UInt8} (hc : c ∈ figC f p) : 0 ≤ numF p c ∧ numF p c < ten (p.offset + 1) := by
  obtain ⟨_, _, h3, _⟩ := ho.beg hb
  have h0 := ho.n0
  have ho0 := ho.o0
  rw [ten_next ho0]
  have := ten_pos p.offset
  unfold numF
  rcases figC_mem hc with ⟨rfl, hd⟩ | ⟨hn, h1, h2⟩
  · rw [if_neg (by simp)]; omega
  · rw [if_pos hn]; omega
theorem pushN_set {l : List BRow} {n : Int} (h : l ≠ []) : pushN l n = l.set (l.length - 1) ⟨(nth l (l.length - 1)).nums ++ [n], (nth l (l.length - 1)).struck⟩ := by
  have hp := List.length_pos_iff.2 h
  unfold pushN
  rw [List.set_eq_take_append_cons_drop, if_pos (by omega), List.drop_of_length_le (by omega)]
theorem pushN_len {l : List BRow} {n : Int} (h : l ≠ []) : (pushN l n).length = l.length := by rw [pushN_set h, List.length_set]
theorem nth_set_eq' {α : Type} [Inhabited α] {l : List α} {k : Nat} {x : α} (h : k < l.length) : nth (l.set k x) k = x := by simp [nth, h]
theorem nth_set_ne' {α : Type} [Inhabited α] {l : List α} {k j : Nat} {x : α} (h : k ≠ j) : nth (l.set k x) j = nth l j := by simp [nth, List.getElem?_set_ne h]
theorem pushN_last {l : List BRow} {n : Int} (h : l ≠ []) : nth (pushN l n) (l.length - 1) = ⟨(nth l (l.length - 1)).nums ++ [n], (nth l (l.length - 1)).struck⟩ := by
  have hp := List.length_pos_iff.2 h
  rw [pushN_set h, nth_set_eq' (by omega)]
theorem pushN_old {l : List BRow} {n : Int} (h : l ≠ []) {k : Nat} (hk : k < l.length - 1) : nth (pushN l n) k = nth l k := by rw [pushN_set h, nth_set_ne' (by omega)]
theorem nth_snoc_old {α : Type} [Inhabited α] {l : List α} {x : α} {k : Nat} (h : k < l.length) : nth (l ++ [x]) k = nth l k := by simp [nth, List.getElem?_append_left h]
theorem nth_snoc_new {α : Type} [Inhabited α] {l : List α} {x : α} {k : Nat} (h : k = l.length) : nth (l ++ [x]) k = x := by subst h; simp [nth]
theorem RdrOk.begN {f : BForm} {p : Rdr} (ho : RdrOk f p) (hb : p.begun = true) : p.read ≠ [] ∧ p.read.length - 1 = p.rows.toNat ∧ (p.read.length : Int) = p.rows + 1 := by
  have h := ho.few
  rw [if_pos hb] at h
  have := ho.r0
  refine ⟨fun e => ?_, by omega, h⟩
  rw [e] at h; simp at h; omega
theorem push_num {f : BForm} {p : Rdr} (ho : RdrOk f p) (hb : p.begun = true) {c : UInt8} (hc : c ∈ figC f p) (hw : ¬ p.offset + 1 < wid f p) :
    ((nth (pushN p.read (numF p c)) p.rows.toNat).nums.length : Int) = p.column + 1 ∧ ∀ k : Nat, (k : Int) < p.column + 1 → 0 ≤ nth (nth (pushN p.read (numF p c)) p.rows.toNat).nums k ∧ nth (nth (pushN p.read (numF p c)) p.rows.toNat).nums k < ten (nth f.widths k) := by
  obtain ⟨h1, h2, h3, h4, h5, h6, h7, h8⟩ := ho.beg hb
  obtain ⟨n1, n2, _⟩ := ho.begN hb
  have hnb := num_bnd ho hb hc
  have hc0 := ho.c0
  rw [← n2, pushN_last n1, n2]
  refine ⟨by rw [List.length_append, List.length_singleton]; omega, fun k hk => ?_⟩
  by_cases e : (k : Int) < p.column
  · rw [nth_snoc_old (by omega)]; exact h8 k e
  · rw [nth_snoc_new (by omega)]
    have : nth f.widths k = p.offset + 1 := by
      have : k = p.column.toNat := by omega
      rw [this]; unfold wid at hw h2; omega
    rw [this]; exact hnb
theorem push_full {f : BForm} {p : Rdr} (ho : RdrOk f p) (hb : p.begun = true) {c : UInt8} (hc : c ∈ figC f p) (hw : ¬ p.offset + 1 < wid f p) (hl : p.column + 1 = f.widths.length) : RowOk f (nth (pushN p.read (numF p c)) p.rows.toNat) := by
  obtain ⟨g1, g2⟩ := push_num ho hb hc hw
  exact ⟨by omega, fun k hk => g2 k (by omega)⟩
theorem push_done {f : BForm} {p : Rdr} (ho : RdrOk f p) (hb : p.begun = true) (n : Int) {k : Nat} (hk : (k : Int) < p.rows) : RowOk f (nth (pushN p.read n) k) := by
  obtain ⟨n1, n2, _⟩ := ho.begN hb
  rw [pushN_old n1 (by omega)]; exact ho.done k hk
theorem fig_ok {f : BForm} {p : Rdr} (ho : RdrOk f p) (hb : p.begun = true) {c : UInt8} (hc : c ∈ figC f p) : RdrOk f (figR f p c) := by
  obtain ⟨h1, h2, h3, h4, h5, h6, h7, h8⟩ := ho.beg hb
  obtain ⟨n1, n2, n3⟩ := ho.begN hb
  have hnb := num_bnd ho hb hc
  have e : figR f p c = (if p.offset + 1 < wid f p then { p with number := numF p c, digits := digF' p c, offset := p.offset + 1 }
    else if p.column + 1 = f.widths.length then { p with number := 0, digits := false, offset := 0, column := p.column + 1, read := pushN p.read (numF p c), must := [124, letB f (nth (pushN p.read (numF p c)) ((pushN p.read (numF p c)).length - 1)), 10], begun := false, rows := p.rows + 1, page := p.page + 1 }
    else { p with number := 0, digits := false, offset := 0, column := p.column + 1, read := pushN p.read (numF p c), must := [124] }) := rfl
  rw [e]
  have hr0 := ho.r0; have hr1 := ho.r1; have hp0 := ho.p0; have hp1 := ho.p1; have hc0 := ho.c0; have hc1 := ho.c1; have ho0 := ho.o0; have hfew := ho.few
  split
  · rename_i hw
    refine ⟨ho.form, hr0, hr1, hp0, hp1, hfew, ho.done, hc0, hc1, by show 0 ≤ p.offset + 1; omega, hnb.1, fun hd => ?_, fun _ => ⟨h1, hw, hnb.2, h4, h5, h6, h7, h8⟩, fun h => absurd hb (by rw [show p.begun = false from h]; decide), ho.long⟩
    have hd : digF' p c = false := hd
    unfold digF' at hd
    show numF p c = 0
    have hcd : ¬ c ≠ 32 := by intro hn; simp [hn] at hd
    unfold numF; rw [if_neg hcd]
    exact ho.nd (by revert hd; cases p.digits <;> simp)
  · rename_i hw
    split
    · rename_i hl
      refine ⟨ho.form, by show 0 ≤ p.rows + 1; omega, by show p.rows + 1 ≤ 12; omega, by show 0 ≤ p.page + 1; omega, by show p.page + 1 ≤ f.lines; omega, ?_, fun k hk => ?_, by show 0 ≤ p.column + 1; omega, by show p.column + 1 ≤ f.widths.length; omega, Int.le_refl _, Int.le_refl _, fun _ => rfl, fun h => (by cases h), fun _ => ⟨rfl, rfl, rfl⟩, by show (3 : Nat) ≤ 170; decide⟩
      · show ((pushN p.read (numF p c)).length : Int) = p.rows + 1 + (if false = true then 1 else 0)
        rw [pushN_len n1, n3]; simp
      · have hk : (k : Int) < p.rows + 1 := hk
        by_cases e : (k : Int) < p.rows
        · exact push_done ho hb _ e
        · rw [show k = p.rows.toNat by omega]; exact push_full ho hb hc hw hl
    · rename_i hl
      refine ⟨ho.form, hr0, hr1, hp0, hp1, ?_, fun k hk => push_done ho hb _ hk, by show 0 ≤ p.column + 1; omega, by show p.column + 1 ≤ f.widths.length; omega, Int.le_refl _, Int.le_refl _, fun _ => rfl, fun _ => ?_, fun h => absurd hb (by rw [show p.begun = false from h]; decide), by show (1 : Nat) ≤ 170; decide⟩
      · show ((pushN p.read (numF p c)).length : Int) = p.rows + (if p.begun = true then 1 else 0)
        rw [pushN_len n1, n3, if_pos hb]
      · obtain ⟨g1, g2⟩ := push_num ho hb hc hw
        refine ⟨by show p.column + 1 < f.widths.length; omega, ?_, by show (0 : Int) < ten 0; decide, h4, h5, h6, g1, g2⟩
        show (0 : Int) < nth f.widths (p.column + 1).toNat
        have := nth_wid ho.form (c := (p.column + 1).toNat) (by omega)
        omega
theorem RdrOk.rows_ok {f : BForm} {p : Rdr} (ho : RdrOk f p) (hb : p.begun = false) : ∀ r ∈ p.read, RowOk f r := by
  intro r hr
  obtain ⟨k, hk, rfl⟩ := List.getElem_of_mem hr
  have := ho.few
  rw [if_neg (ng hb)] at this
  have h := ho.done k (by omega)
  rwa [show nth p.read k = p.read[k] from by simp [nth, hk]] at h
theorem RdrOk.small {f : BForm} {p : Rdr} (ho : RdrOk f p) (hb : p.begun = false) : SmallR p.read := fun r hr => small_of ho.form (ho.rows_ok hb r hr)
theorem RdrOk.len {f : BForm} {p : Rdr} (ho : RdrOk f p) : p.read.length ≤ 13 := by
  have := ho.few; have := ho.r1
  split at * <;> omega
theorem next_ok {f : BForm} {p : Rdr} (ho : RdrOk f p) {c : UInt8} (hc : c ∈ canR f p) : RdrOk f (nextR f p c) := by
  have hr0 := ho.r0; have hr1 := ho.r1; have hp0 := ho.p0; have hp1 := ho.p1; have hc0 := ho.c0; have hc1 := ho.c1; have ho0 := ho.o0; have hfew := ho.few
  unfold nextR
  cases hm : p.must with
  | cons x t =>
    have := ho.long
    rw [hm] at this
    exact ⟨ho.form, hr0, hr1, hp0, hp1, hfew, ho.done, hc0, hc1, ho0, ho.n0, ho.nd, ho.beg, ho.idle, by show t.length ≤ 170; simp at this; omega⟩
  | nil =>
    dsimp only
    split
    · rename_i hb
      rw [can_begun hm hb] at hc
      exact fig_ok ho hb hc
    · rename_i hb
      have hb : p.begun = false := by simpa using hb
      obtain ⟨i1, i2, i3⟩ := ho.idle hb
      have hll := lineB_len ho.form (ho.small hb) (by have := ho.len; omega)
      split
      · refine ⟨ho.form, hr0, hr1, Int.le_refl _, by have := ho.form.l1; show (0 : Int) ≤ f.lines; omega, hfew, ho.done, hc0, hc1, ho0, ho.n0, ho.nd, fun h => absurd h (ng hb), fun _ => ⟨i1, i2, i3⟩, hll⟩
      · split
        · exact ⟨ho.form, hr0, hr1, hp0, hp1, hfew, ho.done, hc0, hc1, ho0, ho.n0, ho.nd, fun h => absurd h (ng hb), fun _ => ⟨i1, i2, i3⟩, hll⟩
        · rename_i n43 n61
          have hcl : p.closed = false := by
            cases hcl : p.closed with
            | false => rfl
            | true =>
              rw [can_closed hm hb hcl] at hc
              split at hc
              · exact absurd (List.mem_singleton.1 hc) n43
              · cases hc
          rw [can_open hm hb hcl] at hc
          have hmo : moB f p = true := by
            rcases List.mem_append.1 hc with h | h
            · split at h
              · assumption
              · cases h
            · split at h
              · exact absurd (List.mem_singleton.1 h) n61
              · cases h
          unfold moB at hmo
          simp only [Bool.and_eq_true, decide_eq_true_eq] at hmo
          rw [if_neg (ng hb)] at hfew
          have h1 := ho.form.n1
          have hw := nth_wid ho.form (c := 0) (by omega)
          refine ⟨ho.form, hr0, hr1, hp0, hp1, ?_, fun k hk => ?_, Int.le_refl _, by show (0 : Int) ≤ f.widths.length; omega, Int.le_refl _, ho.n0, ho.nd, fun _ => ?_, fun h => (by cases h), ?_⟩
          · show ((p.read ++ [_]).length : Int) = p.rows + (if true = true then 1 else 0)
            rw [List.length_append, List.length_singleton, if_pos rfl]; omega
          · rw [nth_snoc_old (by have hk : (k : Int) < p.rows := hk; omega)]; exact ho.done k hk
          · refine ⟨by show (0 : Int) < f.widths.length; omega, by show (0 : Int) < nth f.widths (0 : Int).toNat; exact hw.1, by show p.number < ten 0; rw [i2]; decide, hmo.2, hmo.1, hcl, ?_, fun k hk => ?_⟩
            · show ((nth (p.read ++ [_]) p.rows.toNat).nums.length : Int) = 0
              rw [nth_snoc_new (by omega)]; rfl
            · have hk : (k : Int) < 0 := hk
              omega
          · show (0 : Nat) ≤ 170
            decide
theorem new_ok {f : BForm} (hf : FormOk f) : RdrOk f Rdr.new := by
  have h1 := hf.l1
  exact ⟨hf, Int.le_refl _, by decide, Int.le_refl _, by show (0 : Int) ≤ f.lines; omega, rfl, fun k hk => (by have hk : (k : Int) < 0 := hk; omega), Int.le_refl _, by show (0 : Int) ≤ f.widths.length; omega, Int.le_refl _, Int.le_refl _, fun _ => rfl, fun h => (by cases h), fun _ => ⟨rfl, rfl, rfl⟩, by decide⟩
end Go.Proofs.YtjjndkenddigiaaGreatDoor

namespace Go.T
open Go Go.RowKit
section
variable {P : Program} {fr : Fr} {ops : Array Oper} {A : As} {rest : List Oper} {K : As → List (As × Fx) → Prop} {d : Nat} {t ty' ty2 : TypeId} {p : String} {e : Array Edge}
end
end Go.T

namespace Go.T
open Go Go.RowKit
section
variable {P : Program} {fr : Fr} {ops : Array Oper} {A : As} {rest : List Oper} {K : As → List (As × Fx) → Prop} {d : Nat} {t ty' : TypeId} {p : String} {e : Array Edge} [T : Tab P]
end
end Go.T

namespace Go.T
open Go Go.RowKit
section
variable {P : Program} {fr : Fr} {ops : Array Oper} {A : As} {rest : List Oper} {K : As → List (As × Fx) → Prop} {d : Nat} {t ty' : TypeId} {p : String} {e : Array Edge} [T : Tab P]
theorem r_copyRc {α : Type} {E : El α} {zs ys : List α} {x y : Operand} {tg n c0 el st st' Tb : Nat} {ti te : TI} (hx : A.op fr x = .rc tg n (some c0)) (hy : A.op fr y = .sl E ys) (hc : A.tag tg = some (.rcv E Tb zs (some c0))) (h1 : Tag1 tg) (hT : T.tab[st]? = some ti) (hk : ti.k = .slice el) (hE : T.tab[el]? = some te) (hs : te.size = E.size) (hn : zs.length = n) (hle : ys.length ≤ n)
    (h : TOps P fr ops rest (A.after { d := some d, ty := .int .i64 (ys.length : Nat), S := [tg], sets := [(tg, .rcv E Tb (ys ++ zs.drop ys.length) (some c0))], rs := opR x ++ opR y, rt := [tg] }) fun A' l'' => K A' ((A, { d := some d, ty := .int .i64 (ys.length : Nat), S := [tg], sets := [(tg, .rcv E Tb (ys ++ zs.drop ys.length) (some c0))], rs := opR x ++ opR y, rt := [tg] }) :: l'')) :
    TOps P fr ops (⟨some d, .call ⟨.builtin .copy, #[x, y], #[st, st']⟩, t, p, e, none⟩ :: rest) A K := by
  refine ⟨_, opT_mem rfl rfl (by simp) (by simpa using h1.1) (by simp) fun a w M wf hr ht => ?_, h⟩
  obtain ⟨hdx, hdy⟩ := op2 hr
  rw [hx] at hdx; rw [hy] at hdy
  obtain ⟨_, D, _, hD, hkd, _⟩ := tab_info hT
  rw [hk] at hkd
  cases D <;> simp only [TK.of, reduceCtorEq, TK.slice.injEq] at hkd
  subst hkd
  rename_i el
  have hsz := fun w => run_sizeOf' (P := P) hE w
  obtain ⟨ad, c, ey, hc1, hc2, hp⟩ := hdy
  obtain ⟨b, hb, ex, hn0, hm0⟩ := hdx
  obtain ⟨b2, cs, hb2, hh, hsz0, hd⟩ : dRcv E Tb zs (some c0) w M tg := ht _ (tag_mem hc) (by simp)
  have hmin : Nat.min ys.length n = ys.length := Nat.min_eq_left hle
  by_cases hys : ys = []
  · subst hys
    have hl : ∀ (q : Addr), (loadCells q 0).run P w = .ok #[] w := fun q => by simpa using run_loadCells_list (P := P) w q [] (by simp)
    have hrun : (Builtin.copy_ #[st, st'] t #[a.eval x, a.eval y]).run P w = .ok (goInt 0) w := by
      rw [ey, ex]; cases ad <;> simp [Builtin.copy_, run_underlying hD, Builtin.lenOf, Builtin.firstCells, hsz, storeCells, hl]
    refine ⟨goInt 0, w, by simp [execOp, resolve, invoke, builtin, hrun], M, wf, (Le.refl _ _ w M), rfl, ?_⟩
    intro z' hz'
    simp only [List.mem_singleton] at hz'
    subst hz'
    have hv : (Cont.rcv E Tb zs (some c0)).den w M tg := ⟨b2, cs, hb2, hh, hsz0, hd⟩
    simpa using hv
  · have hpos : 0 < ys.length := List.length_pos_iff.2 hys
    obtain ⟨b', off, rfl, hp'⟩ := hp hpos
    obtain ⟨news, hn1, hn2, hn3⟩ := pub_cells hp' _ (Nat.le_refl _)
    rw [List.take_length] at hn2
    rw [flat_len] at hn1
    obtain ⟨u, rfl⟩ : ∃ u, tg = u + 1 := ⟨tg - 1, by omega⟩
    have := wf.inj b b2 u (by omega) hb hb2
    subst this
    have hlen := dens_len hd
    have hm : ys.length * E.size ≤ zs.length * E.size := Nat.mul_le_mul_right _ (by omega)
    have hoff : ys.length * E.size ≤ cs.size := by
      rw [flat_len, List.length_take] at hlen
      simp at hlen; omega
    have hst := run_storeCells_at (P := P) b 0 Tb news 0 cs w hh (by omega) (dens_ones hn2 (flat_ones E ys))
    rw [setRow_set _ hh] at hst
    obtain ⟨h1', h2', h3'⟩ := store_le (cs' := (cs.toList.take (0 + 0) ++ news ++ cs.toList.drop (0 + 0 + news.length)).toArray) (Tb := Tb) wf hb _ rfl
    have hld : (loadCells ⟨b', off, none⟩ (ys.length * E.size)).run P w = .ok news.toArray w := by
      rw [← hn1]
      exact run_loadCells_list (P := P) w _ news (fun j v hj => by rw [Addr.add_lit]; exact hn3 j v hj)
    have hrun : (Builtin.copy_ #[st, st'] t #[a.eval x, a.eval y]).run P w = .ok (goInt ys.length) { w with heap := w.heap.setIfInBounds b (.cells (cs.toList.take (0 + 0) ++ news ++ cs.toList.drop (0 + 0 + news.length)).toArray Tb (0, 0)) } := by
      rw [ex, ey]
      simp only [Builtin.copy_, run_underlying hD, Builtin.lenOf, Builtin.firstCells, hsz, hs, hmin, hld, Sem.run_bind, Sem.run_pure, Result.andThen_ok]
      simp [run_underlying hD, hsz, hs, hmin, hld]
      simp at hst
      rw [hst]
      simp
    refine ⟨goInt ys.length, _, by simp [execOp, resolve, invoke, builtin, hrun], M, h1', h2', rfl, ?_⟩
    intro z' hz'
    simp only [List.mem_singleton] at hz'
    subst hz'
    refine ⟨b, _, hb, h3', ?_, ?_⟩
    · rw [← hsz0]
      simp only [Nat.add_zero, List.take_zero, List.nil_append, Nat.zero_add, List.size_toArray, List.length_append, List.length_drop, hn1, Array.length_toList]
      omega
    have hq := vec_put (xs := zs) (ys := ys) (vs := news) (i := 0) hd hn2 (by omega)
    rw [List.take_zero, List.nil_append, Nat.zero_add, Nat.zero_mul] at hq
    exact dens_mono h2' (by intro _ _ h; cases h) (by rw [E.flat_cdeps]; intro _ h; cases h) (by simpa using hq)
end
end Go.T

namespace Go.T
open Go Go.RowKit
def dFl {α : Type} (E : El α) (o : Option Nat) (xs : List α) (w : World) (M : Tags) (v : Value) : Prop :=
  (v = .slice none 0 0 ∧ xs = []) ∨ ∃ a, v = .slice (some a) xs.length xs.length ∧ xs.length ≤ maxLen ∧
    (0 < xs.length → ∃ b off, a = ⟨b, off, none⟩ ∧ b < w.heap.size ∧ M b = o ∧ ∃ olds, dens w M (xs.flatMap E.tys) olds ∧ ∀ j u, olds[j]? = some u → w.cell? ⟨b, off + j, none⟩ = some u)
theorem dFl_mono {α : Type} {E : El α} {o : Option Nat} {xs : List α} {S K : Nat → Prop} {w w' : World} {M M' : Tags} {v : Value} (le : Le S K w M w' M') (hk : ∀ t, o = some t → ¬ K t) (hs : ∀ t, o = some t → ¬ S t) (h : dFl E o xs w M v) : dFl E o xs w' M' v := by
  rcases h with h | ⟨a, e, hm, h⟩
  · exact .inl h
  · refine .inr ⟨a, e, hm, fun h0 => ?_⟩
    obtain ⟨b, off, ea, hb, hM, olds, hd, hc⟩ := h h0
    have key : M' b = o ∧ w'.heap[b]? = w.heap[b]? := by
      cases o with
      | none => exact le.pub b hb hM
      | some t => let ⟨x, y⟩ := le.own b t hM (hk t rfl); exact ⟨x, y (hs t rfl)⟩
    refine ⟨b, off, ea, Nat.lt_of_lt_of_le hb le.size, key.1, olds, dens_mono le (by rw [E.flat_deps]; intro _ h; cases h) (by rw [E.flat_cdeps]; intro _ h; cases h) hd, fun j u hj => ?_⟩
    have := hc j u hj
    simpa [World.cell?, key.2] using this
def Ty.fl {α : Type} (E : El α) (o : Option Nat) (xs : List α) : Ty :=
  ⟨dFl E o xs, o.toList, o.toList, fun le hk hs h => dFl_mono le (fun t e => hk t (by simp [e])) (fun t e => hs t (by simp [e])) h, true, fun _ h => by
    rcases h with ⟨rfl, _⟩ | ⟨_, rfl, _⟩ <;> rfl⟩
section
variable {P : Program} {fr : Fr} {ops : Array Oper} {A : As} {rest : List Oper} {K : As → List (As × Fx) → Prop} {d : Nat} {t ty' : TypeId} {p : String} {e : Array Edge} [T : Tab P]
theorem run_clip {w : World} {st el n c : Nat} {k k' : IntKind} {ti te : TI} {ad : Option Addr} (hT : T.tab[st]? = some ti) (hk : ti.k = .slice el) (hE : T.tab[el]? = some te) (hn : n ≤ c) :
    ∃ ad', (Instr.sliceAt st (.slice ad n c) none (some (.int k n)) (some (.int k' n))).run P w = .ok (.slice ad' n n) w ∧ (ad = none → ad' = none) ∧ (0 < n → ad' = ad) ∧ (ad ≠ none → ad' ≠ none) := by
  obtain ⟨_, D, _, hD, hkd, _⟩ := tab_info hT
  rw [hk] at hkd
  cases D <;> simp only [TK.of, reduceCtorEq, TK.slice.injEq] at hkd
  subst hkd
  have hsz := fun w => run_sizeOf' (P := P) hE w
  cases ad with
  | none => exact ⟨none, by simp [Instr.sliceAt, Instr.slice, run_underlying hD, Instr.sliceBounds, Instr.sliceBound, asIntOf, hsz, hn], fun _ => rfl, fun _ => rfl, fun h => absurd rfl h⟩
  | some a => exact ⟨some a, by simp [Instr.sliceAt, Instr.slice, run_underlying hD, Instr.sliceBounds, Instr.sliceBound, asIntOf, hsz, hn, Addr.add], fun h => (by cases h), fun _ => rfl, fun _ h => (by cases h)⟩
theorem r_clip {α : Type} {E : El α} {x y z : Operand} {k k' : IntKind} {el : Nat} {ti te : TI} {xs : List α} (hx : A.op fr x = .sl E xs) (hy : A.op fr y = .int k xs.length) (hz : A.op fr z = .int k' xs.length) (hT : T.tab[ty']? = some ti) (hk : ti.k = .slice el) (hE : T.tab[el]? = some te)
    (h : TOps P fr ops rest (A.set d (.fl E none xs)) fun A' l' => K A' ((A, { d := some d, ty := .fl E none xs, rs := opR x ++ (opR y ++ opR z) }) :: l')) : TOps P fr ops (⟨some d, .slice ty' x none (some y) (some z), t, p, e, none⟩ :: rest) A K :=
  tops_pure (opT_pure rfl rfl fun a w M wf hr _ => by
    have hdx := op_den (x := x) (fun _ h => List.mem_append_left _ h) hr
    have hdy := op_den (x := y) (fun _ h => List.mem_append_right _ (List.mem_append_left _ h)) hr
    have hdz := op_den (x := z) (fun _ h => List.mem_append_right _ (List.mem_append_right _ h)) hr
    rw [hx] at hdx; rw [hy] at hdy; rw [hz] at hdz
    have ey : a.eval y = .int k xs.length := hdy
    have ez : a.eval z = .int k' xs.length := hdz
    obtain ⟨ad, c, ex, h1, h2, hp⟩ := hdx
    obtain ⟨ad', hrun, g1, g2, g3⟩ := run_clip (P := P) (w := w) (k := k) (k' := k') (ad := ad) hT hk hE h1
    refine ⟨.slice ad' xs.length xs.length, by simp [execOp, ex, ey, ez, hrun], ?_⟩
    cases xs with
    | nil =>
      cases ad' with
      | none => exact .inl ⟨rfl, rfl⟩
      | some a' => exact .inr ⟨a', rfl, Nat.zero_le _, fun h => absurd h (Nat.lt_irrefl _)⟩
    | cons x0 xs0 =>
      have hpos : 0 < (x0 :: xs0).length := Nat.succ_pos _
      obtain ⟨b, off, e1, hpub⟩ := hp hpos
      refine .inr ⟨⟨b, off, none⟩, by rw [g2 hpos, e1], Nat.le_trans h1 h2, fun _ => ?_⟩
      obtain ⟨olds, q1, q2, q3⟩ := pub_cells hpub _ (Nat.le_refl _)
      rw [List.take_length] at q2
      obtain ⟨m1, m2, _⟩ := hpub
      exact ⟨b, off, rfl, m2, m1, olds, q2, q3⟩) h
theorem run_append_fl {α : Type} {E : El α} {w : World} {M : Tags} {st el tg : Nat} {ty : TypeId} {ti te : TI} {o : Option Nat} {xs ys : List α} {v y : Value} (wf : Wf w M) (hT : T.tab[st]? = some ti) (hk : ti.k = .slice el) (hE : T.tab[el]? = some te) (hs : te.size = E.size) (hz : te.zero.length = te.size) (h0 : 0 < te.size)
    (hx : dFl E o xs w M v) (hy : dSl E ys w M y) (hys : 0 < ys.length) (hlen : (xs.length + ys.length) * te.bytes ≤ 140737488355328) (hlen' : xs.length + ys.length ≤ 9223372036854775807) :
    ∃ v' w' M', (Builtin.append_ #[st, st] ty #[v, y]).run P w = .ok v' w' ∧ Wf w' M' ∧ Le (· ∈ ([] : List Nat)) (· ∈ [tg]) w M w' M' ∧ dRow E el tg (xs ++ ys) w' M' v' := by
  rcases hx with ⟨rfl, rfl⟩ | ⟨a, rfl, hm, hp⟩
  · exact run_append_row wf hT hk hE hs hz h0 row_nil hy hlen hlen'
  obtain ⟨_, D, _, hD, hkd, _⟩ := tab_info hT
  rw [hk] at hkd
  cases D <;> simp only [TK.of, reduceCtorEq, TK.slice.injEq] at hkd
  subst hkd
  rename_i el
  obtain ⟨i, _, hi, _, _, hsz, hby, hze⟩ := tab_info hE
  obtain ⟨z, hiz, hzc⟩ : ∃ z, i.zero = some z ∧ z.cells.size = i.size := by
    cases hiz : i.zero with
    | none => rw [hiz] at hze; rw [← hze] at hz; simp at hz; omega
    | some z => rw [hiz] at hze; exact ⟨z, rfl, by simp at hze; rw [hsz, ← hz, ← hze]; simp⟩
  obtain ⟨ad, c, rfl, hc1, hc2, hpy⟩ := hy
  obtain ⟨b, off, rfl, hp'⟩ := hpy hys
  obtain ⟨news, hn1, hn2, hn3⟩ := pub_cells hp' _ (Nat.le_refl _)
  rw [List.take_length] at hn2
  obtain ⟨olds, ho1, ho2⟩ : ∃ olds, dens w M (xs.flatMap E.tys) olds ∧ ∀ j u, olds[j]? = some u → w.cell? (a.add j) = some u := by
    rcases Nat.eq_zero_or_pos xs.length with hz0 | hpos
    · have := List.length_eq_zero_iff.1 hz0; subst this
      exact ⟨[], trivial, fun j u hj => by simp at hj⟩
    · obtain ⟨b', off', rfl, _, _, olds, q1, q2⟩ := hp hpos
      exact ⟨olds, q1, fun j u hj => by rw [Addr.add_lit]; exact q2 j u hj⟩
  have hlo := dens_len ho1
  rw [flat_len] at hlo
  obtain ⟨v', w', hrun, h2, h3⟩ := run_append_arg_grows (P := P) w st ty el i z i.size i.bytes hD hi hiz rfl rfl hzc (by omega) a xs.length xs.length olds (by rw [hlo, hsz, hs]) ho2 ⟨b, off, none⟩ ys.length c news (by rw [hn1, flat_len, hsz, hs])
    (fun j u hj => by rw [Addr.add_lit]; exact hn3 j u hj) (by omega) (by simp only [maxLen]; omega) (by rw [hby]; exact hlen)
  obtain ⟨g, hg, hge⟩ : ∃ g, v'.ownBlock = some g ∧ w.heap.size ≤ g := by
    rcases h2.2 with ⟨_, h⟩ | ⟨g, cap, cur, rfl, hge, _⟩
    · omega
    · exact ⟨g, rfl, hge⟩
  have hgs : g < w'.heap.size := by
    rcases h2.2 with ⟨_, h⟩ | ⟨g', cap, cur, rfl, _, hh, _⟩
    · omega
    · simp [Value.ownBlock] at hg; subst hg; exact (Array.getElem?_eq_some_iff.1 hh).1
  have hle := retag_le (t := tg) (g := v'.ownBlock) h3.size h3.os h3.tape h3.output (fun b hb hlt => by rw [hg] at hb; injection hb with hb; omega) (fun b hlt hne => h3.block b hlt (by simp)) wf
  refine ⟨v', w', retag M tg v'.ownBlock, hrun, retag_wf wf h3.size (fun b hb => by rw [hg] at hb; injection hb with hb; omega) (wf.amb.le hle), hle, olds ++ news, ?_, ?_, fun g hg => by simp [retag, hg]⟩
  · have : w'.ownsRow 0 el i.size v' (xs.length + ys.length) (olds ++ news) := by
      refine ⟨h2.1, h2.2.imp id fun ⟨g, cap, cur, e, _, r⟩ => ⟨g, cap, cur, e, Nat.zero_le _, r⟩⟩
    rw [List.length_append, ← hs, ← hsz]; exact this
  · rw [List.flatMap_append]
    exact dens_app (dens_mono hle (by rw [E.flat_deps]; intro _ h; cases h) (by rw [E.flat_cdeps]; intro _ h; cases h) ho1) (dens_mono hle (by rw [E.flat_deps]; intro _ h; cases h) (by rw [E.flat_cdeps]; intro _ h; cases h) hn2)
theorem r_clipX {x y z : Operand} {k k' : IntKind} {el n c : Nat} {ad : Option Addr} {ti te : TI} (hx : A.op fr x = .ex (.slice ad n c)) (hy : A.op fr y = .int k n) (hz : A.op fr z = .int k' n) (hT : T.tab[ty']? = some ti) (hk : ti.k = .slice el) (hE : T.tab[el]? = some te) (hn : n ≤ c)
    (h : TOps P fr ops rest (A.set d (.ex (.slice ad n n))) fun A' l' => K A' ((A, { d := some d, ty := .ex (.slice ad n n), rs := opR x ++ (opR y ++ opR z) }) :: l')) : TOps P fr ops (⟨some d, .slice ty' x none (some y) (some z), t, p, e, none⟩ :: rest) A K :=
  tops_pure (opT_pure rfl rfl fun a w M wf hr _ => by
    have hdx := op_den (x := x) (fun _ h => List.mem_append_left _ h) hr
    have hdy := op_den (x := y) (fun _ h => List.mem_append_right _ (List.mem_append_left _ h)) hr
    have hdz := op_den (x := z) (fun _ h => List.mem_append_right _ (List.mem_append_right _ h)) hr
    rw [hx] at hdx; rw [hy] at hdy; rw [hz] at hdz
    have ex : a.eval x = .slice ad n c := hdx
    have ey : a.eval y = .int k n := hdy
    have ez : a.eval z = .int k' n := hdz
    have hrun : (Instr.sliceAt ty' (.slice ad n c) none (some (.int k n)) (some (.int k' n))).run P w = .ok (.slice ad n n) w := by
      obtain ⟨_, D, _, hD, hkd, _⟩ := tab_info hT
      rw [hk] at hkd
      cases D <;> simp only [TK.of, reduceCtorEq, TK.slice.injEq] at hkd
      subst hkd
      have hsz := fun w => run_sizeOf' (P := P) hE w
      cases ad with
      | none => simp [Instr.sliceAt, Instr.slice, run_underlying hD, Instr.sliceBounds, Instr.sliceBound, asIntOf, hsz, hn]
      | some a => simp [Instr.sliceAt, Instr.slice, run_underlying hD, Instr.sliceBounds, Instr.sliceBound, asIntOf, hsz, hn, Addr.add]
    exact ⟨_, by simp [execOp, ex, ey, ez, hrun], rfl⟩) h
theorem r_lenX {x : Operand} {n c el : Nat} {ad : Option Addr} {ti : TI} (hx : A.op fr x = .ex (.slice ad n c)) (hT : T.tab[ty']? = some ti) (hk : ti.k = .slice el)
    (h : TOps P fr ops rest (A.set d (.int .i64 n)) fun A' l => K A' ((A, { d := some d, ty := .int .i64 n, rs := opR x }) :: l)) : TOps P fr ops (⟨some d, .call ⟨.builtin .len, #[x], #[ty']⟩, t, p, e, none⟩ :: rest) A K :=
  tops_pure (opT_pure (rt := []) rfl rfl fun a w M _ hrd _ => by
    have hdx := op_den (x := x) (fun _ h => h) hrd
    rw [hx] at hdx
    have ex : a.eval x = .slice ad n c := hdx
    obtain ⟨_, D, _, hD, hkd, _⟩ := tab_info hT
    rw [hk] at hkd
    cases D <;> simp only [TK.of, reduceCtorEq, TK.slice.injEq] at hkd
    exact ⟨.int .i64 n, by simp [execOp, resolve, invoke, builtin, ex, Builtin.len_, run_underlying hD, goInt], rfl⟩) h
theorem dFl_row {α : Type} {E : El α} {Tb tg c : Nat} {ad : Option Addr} {xs : List α} {w : World} {M : Tags} (h : dRow E Tb tg xs w M (.slice ad xs.length c)) : dFl E (some tg) xs w M (.slice ad xs.length xs.length) := by
  obtain ⟨cs, ⟨hl, ho⟩, hd, hM⟩ := h
  rcases ho with ⟨ex, h0⟩ | ⟨g, cap, cur, ex, _, hh, hn, hm, hsz, htk⟩
  · injection ex with e1 e2 e3
    subst e1
    exact .inl ⟨by rw [h0], List.length_eq_zero_iff.1 h0⟩
  · injection ex with e1 e2 e3
    subst e1; subst e3
    refine .inr ⟨⟨g, 0, none⟩, rfl, Nat.le_trans hn hm, fun _ => ⟨g, 0, rfl, (Array.getElem?_eq_some_iff.1 hh).1, hM g rfl, cs, hd, fun j u hj => ?_⟩⟩
    rw [← htk, List.getElem?_take] at hj
    split at hj
    · rw [Nat.zero_add]; simpa [World.cell?, hh] using hj
    · cases hj
theorem r_appendW {α : Type} {E : El α} {x y : Operand} {st el tg c : Nat} {ad : Option Addr} {ti te : TI} {xs ys : List α} (hx : A.op fr x = .ex (.slice ad xs.length xs.length)) (hc : A.tag tg = some (.rv (.slice ad xs.length c) E el tg xs)) (hy : A.op fr y = .sl E ys) (hys : 0 < ys.length) (h1 : 1 ≤ tg) (hp : fr.pass.contains tg = false) (hT : T.tab[st]? = some ti) (hk : ti.k = .slice el) (hE : T.tab[el]? = some te) (hs : te.size = E.size) (hz : te.zero.length = te.size) (h0 : 0 < te.size)
    (hlen : (xs.length + ys.length) * te.bytes ≤ 140737488355328) (hlen' : xs.length + ys.length ≤ 9223372036854775807)
    (h : TOps P fr ops rest (A.after { d := some d, ty := .row E el tg (xs ++ ys), K := [tg], rs := opR x ++ opR y, rt := [tg] }) fun A' l' => K A' ((A, { d := some d, ty := .row E el tg (xs ++ ys), K := [tg], rs := opR x ++ opR y, rt := [tg] }) :: l')) :
    TOps P fr ops (⟨some d, .call ⟨.builtin .append, #[x, y], #[st, st]⟩, t, p, e, none⟩ :: rest) A K := by
  refine ⟨_, opT_mem rfl rfl (by simp) (by simp) (by simp at hp ⊢; exact ⟨h1, hp⟩) fun a w M wf hr ht => ?_, h⟩
  obtain ⟨hdx, hdy⟩ := op2 hr
  rw [hx] at hdx; rw [hy] at hdy
  have ex : a.eval x = .slice ad xs.length xs.length := hdx
  have hrv : dRow E el tg xs w M (.slice ad xs.length c) := ht _ (tag_mem hc) (by simp)
  obtain ⟨v', w', M', hrun, h1', h2', h3'⟩ := run_append_fl (P := P) (ty := t) (tg := tg) wf hT hk hE hs hz h0 (dFl_row hrv) hdy hys hlen hlen'
  exact ⟨v', w', by simp [execOp, resolve, invoke, builtin, ex, hrun], M', h1', h2', h3', by simp⟩
theorem r_appendFP {α : Type} {E : El α} {x y : Operand} {st el : Nat} {ti te : TI} {o : Option Nat} {xs ys : List α} (hx : A.op fr x = .fl E o xs) (hy : A.op fr y = .sl E ys) (hys : 0 < ys.length) (hp : fr.pass.contains (d + 1) = false) (hT : T.tab[st]? = some ti) (hk : ti.k = .slice el) (hE : T.tab[el]? = some te) (hs : te.size = E.size) (hz : te.zero.length = te.size) (h0 : 0 < te.size)
    (hlen : (xs.length + ys.length) * te.bytes ≤ 140737488355328) (hlen' : xs.length + ys.length ≤ 9223372036854775807)
    (h : TOps P fr ops rest (A.after { d := some d, ty := .sl E (xs ++ ys), K := [d + 1], rs := opR x ++ opR y }) fun A' l' => K A' ((A, { d := some d, ty := .sl E (xs ++ ys), K := [d + 1], rs := opR x ++ opR y }) :: l')) :
    TOps P fr ops (⟨some d, .call ⟨.builtin .append, #[x, y], #[st, st]⟩, t, p, e, none⟩ :: rest) A K := by
  refine ⟨_, opT_mem rfl rfl (by simp) (by simp) (by simp at hp ⊢; exact hp) fun a w M wf hr _ => ?_, h⟩
  obtain ⟨hdx, hdy⟩ := op2 hr
  rw [hx] at hdx; rw [hy] at hdy
  obtain ⟨v', w', M', hrun, h1', h2', h3'⟩ := run_append_fl (P := P) (ty := t) (tg := d + 1) wf hT hk hE hs hz h0 hdx hdy hys hlen hlen'
  refine ⟨v', w', by simp [execOp, resolve, invoke, builtin, hrun], pubTag M' (d + 1), pubTag_wf h1', ?_, ?_, by simp⟩
  · refine ⟨h2'.size, h2'.os, h2'.tape, h2'.out, fun b hb hm => ?_, fun b u hm hu => ?_⟩
    · obtain ⟨q1, q2⟩ := h2'.pub b hb hm
      exact ⟨by simp [pubTag, q1], q2⟩
    · obtain ⟨q1, q2⟩ := h2'.own b u hm hu
      have hne : u ≠ d + 1 := fun e => hu (by simp [e])
      exact ⟨by simp [pubTag, q1, hne], q2⟩
  · exact pub_row (A := ⟨fun _ => .row E el (d + 1) (xs ++ ys), []⟩) (s := 0) rfl w' M' v' h1' (fun _ h => by cases h) h3'
theorem r_load_rcE {α : Type} [Inhabited α] {E : El α} {xs : List α} {k : Option Nat} {x : Operand} {tg off Tb : Nat} {ti : TI} (i : Nat) (hx : A.op fr x = .ptr tg off) (he : off = i * E.size) (hc : A.tag tg = some (.rcv E Tb xs k)) (h1 : Tag1 tg) (hT : T.tab[ty']? = some ti) (ha : ti.k.agg = true) (hsz : ti.size = E.size) (hi : i < xs.length)
    (h : TOps P fr ops rest (A.set d (.agg (E.tys (nth xs i)))) fun A' l => K A' ((A, { d := some d, ty := .agg (E.tys (nth xs i)), rs := opR x, rt := [tg] }) :: l)) : TOps P fr ops (⟨some d, .load ty' x, t, p, e, none⟩ :: rest) A K :=
  tops_pure (opT_pure rfl rfl fun a w M wf hr ht => by
    have := op_den (x := x) (fun _ h => h) hr
    rw [hx] at this
    obtain ⟨b, hb, e⟩ := this
    have hcd : dRcv E Tb xs k w M tg := ht _ (tag_mem hc) (by simp)
    obtain ⟨cs, g1, g2, g3⟩ := cells_take (l := E.tys (nth xs i)) (b := b) (q := off) (off := 0) (n := ti.size) (m := E.tys (nth xs i)) (fun j t hj => vec_cell wf h1 hb (rcv_vec hcd) (by
      rw [he]; exact flat_elem E xs hi j t hj)) (by rw [List.drop_zero, hsz, ← E.len (nth xs i), List.take_length]) (by rw [E.len, hsz])
    exact ⟨.agg cs.toArray, by simp only [execOp, e]; rw [Sem.run_bind, run_loadN (off := off) hT ha g1 (by simpa using g3)]; rfl, cs.toArray, rfl, by simpa using g2⟩) h
theorem r_index_rcI {x y : Operand} {tg n : Nat} {c : Option Nat} {k : IntKind} {i : Int} (j : Nat) {ti te : TI} {el : Nat} (hx : A.op fr x = .rc tg n c) (hy : A.op fr y = .int k i) (he : i = (j : Int)) (hT : T.tab[ty']? = some ti) (hk : ti.k = .slice el) (hE : T.tab[el]? = some te) (hi : j < n)
    (h : TOps P fr ops rest (A.set d (.ptr tg (j * te.size))) fun A' l => K A' ((A, { d := some d, ty := .ptr tg (j * te.size), rs := opR x ++ opR y }) :: l)) : TOps P fr ops (⟨some d, .indexAddr ty' x y, t, p, e, none⟩ :: rest) A K := by
  subst he; exact r_index_rc hx hy hT hk hE hi h
omit T in
theorem subs_len : ∀ {l l' : List Ty}, Subs l l' → l.length = l'.length
  | [], [], _ => rfl
  | _ :: _, _ :: _, ⟨_, h⟩ => by simp [subs_len h]
omit T in
theorem subs_get : ∀ {l l' : List Ty} {i : Nat} {t : Ty}, Subs l l' → l'[i]? = some t → ∃ s, l[i]? = some s ∧ s.Sub t
  | [], [], _, _, _, h => by simp at h
  | s :: _, _ :: _, 0, _, ⟨h1, _⟩, h => by simp at h; subst h; exact ⟨s, rfl, h1⟩
  | _ :: _, _ :: _, i + 1, _, ⟨_, h2⟩, h => by simp at h; obtain ⟨s, q1, q2⟩ := subs_get h2 h; exact ⟨s, by simpa using q1, q2⟩
theorem r_makeRcZ {α : Type} {E : El α} {x0 : α} {x y : Operand} {k k' : IntKind} {n m : Int} {el : Nat} {ti te : TI} (hx : A.op fr x = .int k n) (hy : A.op fr y = .int k' m) (hT : T.tab[ty']? = some ti) (hk : ti.k = .slice el) (hE : T.tab[el]? = some te) (hs : te.size = E.size) (hz : Subs (te.zero.map Ty.ofVal) (E.tys x0)) (hzp : 0 < te.size) (hp : fr.pass.contains (d + 1) = false)
    (hn : 0 ≤ n) (hnm : n ≤ m) (hlen : (te.bytes : Int) * m ≤ 281474976710656) (hlen' : m ≤ 9223372036854775807)
    (h : TOps P fr ops rest (A.after { d := some d, ty := .rc (d + 1) n.toNat (some m.toNat), K := [d + 1], sets := [(d + 1, .rcv E el (List.replicate n.toNat x0) (some m.toNat))], rs := opR x ++ opR y }) fun A' l' => K A' ((A, { d := some d, ty := .rc (d + 1) n.toNat (some m.toNat), K := [d + 1], sets := [(d + 1, .rcv E el (List.replicate n.toNat x0) (some m.toNat))], rs := opR x ++ opR y }) :: l')) :
    TOps P fr ops (⟨some d, .makeSlice ty' x y, t, p, e, none⟩ :: rest) A K := by
  refine ⟨_, opT_mem rfl rfl (by simp) (by simp) (by simp at hp ⊢; exact hp) fun a w M wf hr _ => ?_, h⟩
  obtain ⟨hdx, hdy⟩ := op2 hr
  rw [hx] at hdx; rw [hy] at hdy
  have ex : a.eval x = .int k n := hdx
  have ey : a.eval y = .int k' m := hdy
  obtain ⟨_, D, _, hD, hkd, _⟩ := tab_info hT
  rw [hk] at hkd
  cases D <;> simp only [TK.of, reduceCtorEq, TK.slice.injEq] at hkd
  rename_i el0
  have hel : el0 = el := hkd
  subst hel
  obtain ⟨i, _, hi, _, _, hsz, hby, hze⟩ := tab_info hE
  have hzl : te.zero.length = te.size := by rw [← List.length_map (f := Ty.ofVal), subs_len hz, E.len, hs]
  obtain ⟨z, hiz⟩ : ∃ z, i.zero = some z := by
    cases hiz : i.zero with
    | none => rw [hiz] at hze; rw [← hze] at hzl; simp at hzl; omega
    | some z => exact ⟨z, rfl⟩
  rw [hiz] at hze
  have hrun := run_make (P := P) w ty' _ i z hD hi hiz k k' n m hn hnm (by rw [hby]; exact hlen) hlen'
  obtain ⟨h1, h2, h3⟩ := le_alloc wf (.cells (madeCells z.cells (m.toNat * i.size)) el0) (d + 1)
  refine ⟨_, _, by simp [execOp, ex, ey, hrun], _, h1, h2, ⟨_, h3, rfl, by omega, by simp only [maxLen]; omega⟩, ?_⟩
  intro x hx
  simp only [List.mem_singleton] at hx
  subst hx
  have hnm' : n.toNat * te.size ≤ m.toNat * te.size := Nat.mul_le_mul_right _ (by omega)
  refine ⟨w.heap.size, _, h3, alloc_new _ _, by simp [madeCells, hsz, hs], ?_⟩
  rw [flat_len, List.length_replicate, ← hs]
  have hzs : z.cells.size = te.size := by rw [← hzl, ← hze]; simp
  refine dens_of_get (by rw [flat_len, List.length_replicate, ← hs, List.length_take, Array.length_toList]; simp only [madeCells, Array.size_map, Array.size_range, hsz]; first | exact (Nat.min_eq_left hnm').symm | exact Nat.min_eq_left hnm') fun j ty hj => ?_
  have hjl : j < n.toNat * te.size := by
    have := (List.getElem?_eq_some_iff.1 hj).1
    rw [flat_len, List.length_replicate, ← hs] at this; exact this
  have hq : j / te.size < n.toNat := Nat.div_lt_of_lt_mul (by rw [Nat.mul_comm]; exact hjl)
  have hm : j % te.size < te.size := Nat.mod_lt _ hzp
  have hget := flat_get E (List.replicate n.toNat x0) (j / te.size) (j % te.size) (by simpa using hq) (by rw [← hs]; exact hm)
  have hdecomp : j / te.size * E.size + j % te.size = j := by rw [← hs, Nat.mul_comm]; exact Nat.div_add_mod j te.size
  rw [hdecomp, hj] at hget
  simp only [List.getElem?_replicate, hq, if_true, Option.bind_some] at hget
  obtain ⟨s0, hs0, hsub⟩ := subs_get hz hget.symm
  rw [List.getElem?_map] at hs0
  obtain ⟨u, hu, hty⟩ := Option.map_eq_some_iff.1 hs0
  refine ⟨u, ?_, hsub _ _ _ (hty ▸ ofVal_den _ _ _)⟩
  rw [List.getElem?_take, if_pos hjl]
  have hu' : z.cells[j % z.cells.size]? = some u := by rw [hzs]; rw [← hze] at hu; simpa using hu
  simp only [madeCells, Array.toList_map, List.getElem?_map, Array.toList_range, hsz]
  rw [List.getElem?_range (by omega)]
  simp only [Option.map_some]
  rw [getElem!_def, hu']
omit T in
theorem subs_dens' {w : World} {M : Tags} : ∀ {l l' : List Ty} {vs : List Value}, Subs l l' → dens w M l vs → dens w M l' vs
  | [], [], [], _, _ => trivial
  | _ :: _, _ :: _, _ :: _, ⟨h1, h2⟩, ⟨h3, h4⟩ => ⟨h1 _ _ _ h3, subs_dens' h2 h4⟩
omit T in
theorem Ty.sub_agg' {l l' : List Ty} (h : Subs l l') : (Ty.agg l).Sub (Ty.agg l') := fun _ _ _ ⟨cs, e, hd⟩ => ⟨cs, e, subs_dens' h hd⟩
omit T in
theorem tops_weak {o : Oper} {f : Fx} (t2 : Ty) (hO : OpT P fr ops o A f) (hs : f.ty.Sub t2) (h : TOps P fr ops rest (A.after { f with ty := t2 }) fun A' l' => K A' ((A, { f with ty := t2 }) :: l')) : TOps P fr ops (o :: rest) A K := by
  refine ⟨{ f with ty := t2 }, ?_, h⟩
  obtain ⟨h1, h2, h3, h4, h5⟩ := hO
  refine ⟨h1, h2, h3, h4, fun a w M wf hsz hr ht => ?_⟩
  have := h5 a w M wf hsz hr ht
  split
  · rename_i hw
    rw [if_pos hw] at this
    exact Oper.wpIn_mono (fun a' w' ⟨v, e, M', q1, q2, q3, q4⟩ => ⟨v, e, M', q1, q2, hs _ _ _ q3, q4⟩) this
  · rename_i hw
    rw [if_neg hw] at this
    obtain ⟨M', q1, q2, q3, q4⟩ := this
    exact ⟨M', q1, q2, hs _ _ _ q3, q4⟩
variable {Q : Exit → Act → World → Prop} {c : Code}
omit T in
theorem t_nameRS {D Tb tg : Nat} {α : Type} {E : El α} {T : Nat} {xs : List α} (l1 : List Ty) {l2 : List Ty} (hc : A.tag D = some (.cells Tb (l1 ++ Ty.row E T tg xs :: l2)))
    (h : ∀ ad cap, xs.length ≤ cap → Tri P fr c ⟨A.slots, (D, .cells Tb (l1 ++ Ty.ex (.slice ad xs.length cap) :: l2)) :: (tg, Cont.rv (.slice ad xs.length cap) E T tg xs) :: A.tags.filter fun x => !(x.1 == D)⟩ Q) : Tri P fr c A Q := by
  intro a w ⟨M, ok, hsl, htg⟩
  obtain ⟨b, cs, hb, hh, hd⟩ := htg _ (tag_mem hc)
  obtain ⟨v1, v2, e, d1, d2⟩ := dens_cutX hd
  match v2, d2 with
  | v :: v2, d2 =>
    obtain ⟨ad, cap, hle, rfl⟩ : ∃ ad cap, xs.length ≤ cap ∧ v = .slice ad xs.length cap := by
      obtain ⟨_, ⟨_, h⟩, _, _⟩ := d2.1
      rcases h with ⟨rfl, h0⟩ | ⟨g, cap, cur, rfl, _, _, hn, _⟩
      · exact ⟨none, 0, by omega, by rw [h0]⟩
      · exact ⟨_, _, hn, rfl⟩
    refine h ad cap hle a w ⟨M, ok, hsl, fun x hx => ?_⟩
    rcases List.mem_cons.1 hx with rfl | hx
    · exact ⟨b, cs, hb, hh, by rw [e]; exact dens_append d1 ⟨rfl, d2.2⟩⟩
    · rcases List.mem_cons.1 hx with rfl | hx
      · exact d2.1
      · exact htg x (List.mem_filter.1 hx).1
omit T in
theorem t_ownCellC {D Tb tg : Nat} {α : Type} {E : El α} {T : Nat} {xs : List α} (l1 : List Ty) {l2 : List Ty} (hc : A.tag D = some (.cells Tb (l1 ++ Ty.row E T tg xs :: l2)))
    (h : ∀ k, Tri P fr c ⟨A.slots, (D, .cells Tb (l1 ++ Ty.rc tg xs.length k :: l2)) :: (tg, Cont.rcv E T xs k) :: A.tags.filter fun x => !(x.1 == D)⟩ Q) : Tri P fr c A Q := by
  intro a w ⟨M, ok, hsl, htg⟩
  obtain ⟨b, cs, hb, hh, hd⟩ := htg _ (tag_mem hc)
  obtain ⟨v1, v2, e, d1, d2⟩ := dens_cutX hd
  match v2, d2 with
  | v :: v2, d2 =>
    obtain ⟨cs', h1, h2, h3⟩ := d2.1
    have key : ∃ k, dRc tg xs.length k w M v ∧ dRcv E T xs k w M tg := by
      rcases h1.2 with ⟨e, h0⟩ | ⟨g, cap, cur, ex, _, hh, hn1, hcap, hsz, htk⟩
      · exact ⟨none, ⟨h0, e⟩, List.length_eq_zero_iff.1 h0⟩
      · have hg : M g = some tg := h3 g (by rw [ex]; rfl)
        exact ⟨some cap, ⟨g, hg, ex, hn1, hcap⟩, ⟨g, cur, hg, hh, hsz, by rw [flat_len, htk]; exact h2⟩⟩
    obtain ⟨k, k1, k2⟩ := key
    refine h k a w ⟨M, ok, hsl, fun x hx => ?_⟩
    rcases List.mem_cons.1 hx with rfl | hx
    · exact ⟨b, cs, hb, hh, by rw [e]; exact dens_append d1 ⟨k1, d2.2⟩⟩
    · rcases List.mem_cons.1 hx with rfl | hx
      · exact k2
      · exact htg x (List.mem_filter.1 hx).1
omit T in
theorem t_unownCellC {D Tb tg n : Nat} {α : Type} {E : El α} {T : Nat} {xs : List α} {k : Option Nat} (l1 : List Ty) {l2 : List Ty} (h1 : Tag1 tg) (hc : A.tag D = some (.cells Tb (l1 ++ Ty.rc tg n k :: l2))) (hv : A.tag tg = some (Cont.rcv E T xs k)) (hn : n = xs.length)
    (h : Tri P fr c ⟨A.slots, (D, .cells Tb (l1 ++ Ty.row E T tg xs :: l2)) :: A.tags.filter fun x => !(x.1 == D)⟩ Q) : Tri P fr c A Q := by
  subst hn
  intro a w ⟨M, ok, hsl, htg⟩
  obtain ⟨b, cs, hb, hh, hd⟩ := htg _ (tag_mem hc)
  obtain ⟨v1, v2, e, d1, d2⟩ := dens_cutX hd
  have hcd : dRcv E T xs k w M tg := htg _ (tag_mem hv)
  match v2, d2 with
  | v :: v2, d2 =>
    have hd1 : dRc tg xs.length k w M v := d2.1
    have key : dRow E T tg xs w M v := by
      cases k with
      | none =>
        obtain ⟨_, e⟩ := hd1
        have e2 : xs = [] := hcd
        subst e2
        rw [e]; exact row_nil
      | some c =>
        obtain ⟨b, hb, e, hn, hm⟩ := hd1
        obtain ⟨b', cs, hb', hh, hsz, hdd⟩ := hcd
        obtain ⟨u, rfl⟩ : ∃ u, tg = u + 1 := ⟨tg - 1, by have := h1.1; omega⟩
        have := ok.wf.inj b b' u h1.2 hb hb'
        subst this
        rw [e]
        refine ⟨cs.toList.take (xs.length * E.size), ⟨?_, .inr ⟨b, c, cs, rfl, Nat.zero_le _, hh, hn, hm, hsz, rfl⟩⟩, by rw [flat_len] at hdd; exact hdd, fun g hg => by
          have : b = g := by simpa [Value.ownBlock] using hg
          rw [← this]; exact hb⟩
        have h2 : xs.length * E.size ≤ c * E.size := Nat.mul_le_mul_right _ hn
        rw [List.length_take]; simp; omega
    refine h a w ⟨M, ok, hsl, fun x hx => ?_⟩
    rcases List.mem_cons.1 hx with rfl | hx
    · exact ⟨b, cs, hb, hh, by rw [e]; exact dens_append d1 ⟨key, d2.2⟩⟩
    · exact htg x (List.mem_filter.1 hx).1
end
end Go.T

namespace Go.Proofs.YtjjndkenddigiaaGreatDoor
open Go Go.T
theorem cc_rdr {ρ : List (Nat × Nat)} {a b ar br T : Nat} {f : BForm} {p : Rdr} {l : List Ty} (h : (a, b) ∈ ρ) (h' : (ar, br) ∈ ρ) (e : l = rdrT f p ar) : ConvC ρ a (.cells T l) b (.cells T (rdrT f p br)) := by
  subst e
  exact cc_cells h (cv_cons (cv_cons (cv_cons (cv_cons (cv_cons (cv_cons (cv_cons (cv_cons (cv_cons (cv_cons (cv_cons (cv_cons cv_nil (cv_pub rfl rfl)) (cv_row h')) (cv_pub rfl rfl)) (cv_pub rfl rfl)) (cv_pub rfl rfl)) (cv_pub rfl rfl)) (cv_pub rfl rfl)) (cv_pub rfl rfl)) (cv_pub rfl rfl)) (cv_pub rfl rfl)) (cv_pub rfl rfl)) (cv_pub rfl rfl))
def rdrF (f : BForm) (p : Rdr) (c : UInt8) (off : Int) (tg : Nat) : List Ty :=
  [Ty.sl I64 f.widths, Ty.int .i64 f.lines, Ty.int .i64 p.rows, Ty.int .i64 p.page, Ty.bool p.begun, Ty.bool p.closed, Ty.int .i64 p.column, Ty.int .i64 off, Ty.int .i64 (numF p c), Ty.bool (digF' p c), Ty.row BRowE 66 tg p.read, Ty.str (bs p.must)]
theorem fig_1 {f : BForm} {p : Rdr} {c : UInt8} {tg : Nat} (h : p.offset + 1 < wid f p) : rdrF f p c (p.offset + 1) tg = rdrT f (figR f p c) tg := by
  have e : figR f p c = { p with number := numF p c, digits := digF' p c, offset := p.offset + 1 } := if_pos h
  rw [e]; rfl
theorem fig_2 {f : BForm} {p : Rdr} {c : UInt8} (h : ¬ p.offset + 1 < wid f p) (hl : ¬ p.column + 1 = f.widths.length) : figR f p c = { p with number := 0, digits := false, offset := 0, column := p.column + 1, read := pushN p.read (numF p c), must := [124] } := by
  have e : figR f p c = (if p.offset + 1 < wid f p then { p with number := numF p c, digits := digF' p c, offset := p.offset + 1 }
    else if p.column + 1 = f.widths.length then { p with number := 0, digits := false, offset := 0, column := p.column + 1, read := pushN p.read (numF p c), must := [124, letB f (nth (pushN p.read (numF p c)) ((pushN p.read (numF p c)).length - 1)), 10], begun := false, rows := p.rows + 1, page := p.page + 1 }
    else { p with number := 0, digits := false, offset := 0, column := p.column + 1, read := pushN p.read (numF p c), must := [124] }) := rfl
  rw [e, if_neg h, if_neg hl]
theorem fig_3 {f : BForm} {p : Rdr} {c : UInt8} (h : ¬ p.offset + 1 < wid f p) (hl : p.column + 1 = f.widths.length) : figR f p c = { p with number := 0, digits := false, offset := 0, column := p.column + 1, read := pushN p.read (numF p c), must := [124, letB f (nth (pushN p.read (numF p c)) ((pushN p.read (numF p c)).length - 1)), 10], begun := false, rows := p.rows + 1, page := p.page + 1 } := by
  have e : figR f p c = (if p.offset + 1 < wid f p then { p with number := numF p c, digits := digF' p c, offset := p.offset + 1 }
    else if p.column + 1 = f.widths.length then { p with number := 0, digits := false, offset := 0, column := p.column + 1, read := pushN p.read (numF p c), must := [124, letB f (nth (pushN p.read (numF p c)) ((pushN p.read (numF p c)).length - 1)), 10], begun := false, rows := p.rows + 1, page := p.page + 1 }
    else { p with number := 0, digits := false, offset := 0, column := p.column + 1, read := pushN p.read (numF p c), must := [124] }) := rfl
  rw [e, if_neg h, if_pos hl]
theorem num_no {p : Rdr} {c : UInt8} (h : (c.toNat : Int) = 32) : p.number = numF p c ∧ p.digits = digF' p c := by
  have e : c = 32 := by apply UInt8.toNat_inj.1; show c.toNat = 32; omega
  unfold numF digF'; rw [e]; simp
theorem num_yes {p : Rdr} {c : UInt8} (h : ¬ (c.toNat : Int) = 32) : 10 * p.number + ((c.toNat : Int) - 48) = numF p c ∧ true = digF' p c := by
  have e : c ≠ 32 := fun e => h (by rw [e]; rfl)
  unfold numF digF'; rw [if_pos e]; simp [e]
theorem fig_rng {f : BForm} {p : Rdr} {c : UInt8} (hc : c ∈ figC f p) (h : ¬ (c.toNat : Int) = 32) : 48 ≤ (c.toNat : Int) ∧ (c.toNat : Int) ≤ 57 := by
  rcases figC_mem hc with ⟨rfl, _⟩ | ⟨_, h1, h2⟩
  · exact absurd rfl h
  · omega
theorem num_wrap {p : Rdr} {c : UInt8} (h0 : 0 ≤ p.number) (h1 : p.number < 10000) (hx : 48 ≤ (c.toNat : Int) ∧ (c.toNat : Int) ≤ 57) (h : ¬ (c.toNat : Int) = 32) :
    IntKind.i64.wrap (10 * p.number + IntKind.i64.wrap (IntKind.u8.wrap ((c.toNat : Int) - 48))) = numF p c := by
  have e : IntKind.u8.wrap ((c.toNat : Int) - 48) = ((c.toNat : Int) - 48) % 256 := rfl
  have e1 : IntKind.u8.wrap ((c.toNat : Int) - 48) = (c.toNat : Int) - 48 := by rw [e]; omega
  have e2 : IntKind.i64.wrap ((c.toNat : Int) - 48) = (c.toNat : Int) - 48 := IntWalk.i64_in _ (by omega)
  rw [← (num_yes (p := p) h).1, e1, e2, IntWalk.i64_in _ (by omega)]
theorem len_A {xs : List Int} {x : Int} (h : xs.length ≤ 4) : (xs.length + [x].length) * 8 ≤ 140737488355328 := by show (xs.length + 1) * 8 ≤ _; omega
theorem len_B {xs : List Int} {x : Int} (h : xs.length ≤ 4) : xs.length + [x].length ≤ 9223372036854775807 := by show xs.length + 1 ≤ _; omega
theorem fig_e2 {f : BForm} {p : Rdr} {c : UInt8} {tg : Nat} (n1 : p.read ≠ []) (h : ¬ p.offset + 1 < wid f p) (hl : ¬ p.column + 1 = f.widths.length) :
    [Ty.sl I64 f.widths, Ty.int .i64 f.lines, Ty.int .i64 p.rows, Ty.int .i64 p.page, Ty.bool p.begun, Ty.bool p.closed, Ty.int .i64 (p.column + 1), Ty.int .i64 0, Ty.int .i64 0, Ty.bool false, Ty.row BRowE 66 tg (p.read.set (p.read.length - 1) ⟨(nth p.read (p.read.length - 1)).nums ++ [numF p c], (nth p.read (p.read.length - 1)).struck⟩), Ty.str (bs [124])] = rdrT f (figR f p c) tg := by
  rw [fig_2 h hl, pushN_set n1]; rfl
theorem fig_e3 {f : BForm} {p : Rdr} {c : UInt8} {tg : Nat} (n1 : p.read ≠ []) (h : ¬ p.offset + 1 < wid f p) (hl : p.column + 1 = f.widths.length) :
    [Ty.sl I64 f.widths, Ty.int .i64 f.lines, Ty.int .i64 (p.rows + 1), Ty.int .i64 (p.page + 1), Ty.bool false, Ty.bool p.closed, Ty.int .i64 (p.column + 1), Ty.int .i64 0, Ty.int .i64 0, Ty.bool false, Ty.row BRowE 66 tg (p.read.set (p.read.length - 1) ⟨(nth p.read (p.read.length - 1)).nums ++ [numF p c], (nth p.read (p.read.length - 1)).struck⟩), Ty.str (bs [124, letB f (nth (p.read.set (p.read.length - 1) ⟨(nth p.read (p.read.length - 1)).nums ++ [numF p c], (nth p.read (p.read.length - 1)).struck⟩) (p.read.length - 1)), 10])] = rdrT f (figR f p c) tg := by
  rw [fig_3 h hl, pushN_set n1, List.length_set]; rfl
theorem ten_4 {w : Int} (h : w ≤ 4) : ten w ≤ 10000 := by
  unfold ten
  have : 10 ^ w.toNat ≤ 10 ^ 4 := Nat.pow_le_pow_right (by omega) (by omega)
  omega
end Go.Proofs.YtjjndkenddigiaaGreatDoor

namespace Go.Proofs.YtjjndkenddigiaaGreatDoor
open Go Go.T
set_option maxHeartbeats 1000000
attribute [local irreducible] figC canR numF digF' pushN letB lineB
attribute [local irreducible] dInt dBool dSl dPp dPtr dAgg dTup dClo dAny dEx dStr dGd dCells dVec dVs dRow dOp nth Tri Into TOps Ctr bodyPost Exit.then Exit.inBlock Code.wp Code.wpIn dPa dArr dMp dMap CtrG keepPost iterPost bodyPostM roundQ
set_option maxRecDepth 100000 in
theorem c_Clip_int (l : List Int) : Ctr Tryz.prog 162 [Ty.sl I64 l] (Ty.fl I64 none l) := by
  refine fn_intro Tryz.func162 rfl (by decide) Tryz.ntmps162 (by exact Nat.le_of_ble_eq_true rfl) fun w0 M0 => ?_
  refine t_seq ?_
  refine t_region ?_
  refine asX rfl ?_
  refine r_nil ?_
  refine i_then ?_
  refine t_seq ?_
  refine t_region ?_
  refine mvS rfl ?_
  refine mvS rfl ?_
  refine r_len rfl rfl rfl ?_
  refine mvS rfl ?_
  refine r_len rfl rfl rfl ?_
  refine r_clip rfl rfl rfl rfl rfl rfl ?_
  refine r_assign rfl ?_
  refine r_nil ?_
  refine i_then ?_
  refine t_ret ?_
  refine i_rp1 rfl rfl ?_
  all_goals exact ret_refl rfl rfl
set_option maxRecDepth 100000 in
theorem c_Clip_row (ad : Option Addr) (n c : Nat) (h : n ≤ c) : Ctr Tryz.prog 149 [Ty.ex (.slice ad n c)] (Ty.ex (.slice ad n n)) := by
  refine fn_intro Tryz.func149 rfl (by decide) Tryz.ntmps149 (by exact Nat.le_of_ble_eq_true rfl) fun w0 M0 => ?_
  refine t_seq ?_
  refine t_region ?_
  refine asX rfl ?_
  refine r_nil ?_
  refine i_then ?_
  refine t_seq ?_
  refine t_region ?_
  refine mvX rfl ?_
  refine mvX rfl ?_
  refine r_lenX rfl rfl rfl ?_
  refine mvX rfl ?_
  refine r_lenX rfl rfl rfl ?_
  refine r_clipX rfl rfl rfl rfl rfl rfl h ?_
  refine asX rfl ?_
  refine r_nil ?_
  refine i_then ?_
  refine t_ret ?_
  refine i_rp1 rfl rfl ?_
  all_goals exact ret_refl rfl rfl
set_option maxRecDepth 100000 in
theorem k_opened (f : BForm) : CtrG Tryz.prog 119 [] [] [frmT f] [(6, Cont.cells 177 (rdrT f Rdr.new 5))] (Ty.ptr 6 0) := by
  refine fnG_intro Tryz.func119 rfl (by decide) Tryz.ntmps119 (by exact Nat.le_of_ble_eq_true rfl) fun w0 M0 => ?_
  refine t_seq ?_
  refine t_region ?_
  refine r_box_agg rfl ?_
  refine asX rfl ?_
  refine r_nil ?_
  refine i_then ?_
  refine t_seq ?_
  refine t_region ?_
  refine r_load_ppN rfl rfl rfl (by exact Nat.le_of_ble_eq_true rfl) ?_
  refine r_build rfl rfl (by exact List.cons_ne_nil _ _) rfl (by repeat (first | exact (Parts.nil : Parts _ _ [] _) | (show Parts _ _ ((_, _) :: _) _; apply Parts.agg; (· exact (rfl : _ = Ty.agg _))))) (by exact rfl) ?_
  refine r_box_own rfl rfl rfl ?_
  refine asO rfl ?_
  refine r_nil ?_
  refine i_then ?_
  refine t_ret ?_
  refine g_ret1 [6, 5] rfl rfl (by decide) ?_ ?_
  exact rc_cons rfl (cc_cells (by decide) (cv_cons (cv_cons (cv_cons (cv_cons (cv_cons (cv_cons (cv_cons (cv_cons (cv_cons (cv_cons (cv_cons (cv_cons cv_nil (cv_sub rfl rfl (Ty.str_eq' (b := []) rfl))) cv_nilrow) (cv_pub rfl rfl)) (cv_pub rfl rfl)) (cv_pub rfl rfl)) (cv_pub rfl rfl)) (cv_pub rfl rfl)) (cv_pub rfl rfl)) (cv_pub rfl rfl)) (cv_pub rfl rfl)) (cv_pub rfl rfl)) (cv_pub rfl rfl))) rc_nil
  all_goals skip
  exact rg_cv (cv_ptr (by decide))
set_option maxRecDepth 100000 in
theorem k_can (f : BForm) (p : Rdr) : CtrG Tryz.prog 128 [1000, 1001] [(1000, Cont.cells 177 (rdrT f p 1001))] [Ty.ptr 1000 0] [(1000, Cont.cells 177 (rdrT f p 1001))] (Ty.clo 151 [Ty.pp [Ty.ptr 1000 0]]) := by
  refine fnG_intro Tryz.func128 rfl (by decide) Tryz.ntmps128 (by exact Nat.le_of_ble_eq_true rfl) fun w0 M0 => ?_
  refine t_seq ?_
  refine t_region ?_
  refine r_box_one (ty := Ty.ptr 1000 0) rfl rfl ?_
  refine asX rfl ?_
  refine r_nil ?_
  refine i_then ?_
  refine t_seq ?_
  refine t_region ?_
  refine r_makeFunc rfl ?_
  refine asF rfl ?_
  refine r_nil ?_
  refine i_then ?_
  refine t_ret ?_
  refine g_ret1 [1000, 1001] rfl rfl (by decide) ?_ ?_
  exact rc_cons rfl (cc_rdr (by decide) (by decide) rfl) rc_nil
  all_goals skip
  all_goals exact rg_cv (cv_clo (cv_cons cv_nil (cv_pp (cv_cons cv_nil (cv_ptr (by decide))))))
set_option maxRecDepth 100000 in
theorem k_figure (f : BForm) (p : Rdr) (ho : RdrOk f p) (hm : p.must = []) (hb : p.begun = true) (c : UInt8) (hc : c ∈ figC f p) : CtrG Tryz.prog 148 [1000] [(1000, Cont.cells 177 (rdrT f p 1001))] [Ty.ptr 1000 0, Ty.int .u8 (c.toNat : Int)] [(1000, Cont.cells 177 (rdrT f (figR f p c) 1001))] (Ty.tup []) := by
  refine fnG_intro Tryz.func148 rfl (by decide) Tryz.ntmps148 (by exact Nat.le_of_ble_eq_true rfl) fun w0 M0 => ?_
  obtain ⟨h1, h2, h3, h4, h5, h6, h7, h8⟩ := ho.beg hb
  obtain ⟨n1, n2, n3⟩ := ho.begN hb
  have hc0 := ho.c0
  have ho0 := ho.o0
  have hw := ho.widB hb
  have hr0 := ho.r0
  have hp0 := ho.p0
  have hp1 := ho.p1
  have hn0 := ho.n0
  have hlp := ho.len
  have hpos := List.length_pos_iff.2 n1
  have ht4 := ten_4 (w := p.offset) (by unfold wid at h2; omega)
  have hfw := ho.form.n2
  have hnl : (nth p.read (p.read.length - 1)).nums.length ≤ 4 := by rw [n2]; omega
  have h2' : p.offset < nth f.widths p.column.toNat := h2
  have hfl := ho.form.l2
  refine t_join (J := live [(0, Ty.ptr 1000 0), (1, Ty.int .u8 (c.toNat : Int))] [(1000, Cont.cells 177 (rdrF f p c p.offset 1001))]) ?_ ?_
  ·
    refine t_seq ?_
    refine t_region ?_
    refine mvI rfl ?_
    refine r_bin rfl rfl rfl ?_
    refine r_nil ?_
    refine i_then ?_
    refine t_cond_ndec rfl (fun hc1 => ?_) (fun hc1 => ?_)
    ·
      have hx := fig_rng hc hc1
      refine t_region ?_
      refine mvO rfl ?_
      refine mvO rfl ?_
      refine mvO rfl ?_
      refine r_nilCheck_ptr rfl ?_
      refine r_field_ptr rfl rfl rfl rfl rfl (by decide) ?_
      refine r_field_ptr rfl rfl rfl rfl rfl (by decide) ?_
      refine r_load_ptr rfl rfl (by decide) rfl rfl rfl ?_
      refine r_mul rfl rfl (by omega) (by omega) ?_
      refine mvI rfl ?_
      refine r_bin rfl rfl rfl ?_
      refine r_conv rfl rfl rfl rfl ?_
      refine r_bin rfl rfl rfl ?_
      refine r_nilCheck_ptr rfl ?_
      refine r_field_ptr rfl rfl rfl rfl rfl (by decide) ?_
      refine r_field_ptr rfl rfl rfl rfl rfl (by decide) ?_
      refine r_store1 rfl rfl (by decide) rfl rfl (by exact (rfl : _ = Ty.int _ _)) rfl (by exact Nat.le_of_ble_eq_true rfl) rfl rfl (by exact rfl) ?_
      refine r_nilCheck_ptr rfl ?_
      refine r_field_ptr rfl rfl rfl rfl rfl (by decide) ?_
      refine r_field_ptr rfl rfl rfl rfl rfl (by decide) ?_
      refine r_store1 rfl rfl (by decide) rfl rfl (by exact (rfl : _ = Ty.bool _)) rfl (by exact Nat.le_of_ble_eq_true rfl) rfl rfl (by exact rfl) ?_
      refine r_nil ?_
      refine i_join ?_
      (refine Ent.mk' ?_ ?_ <;> (repeat' (first | exact allSub_zero | exact allTags_nil | exact subs_nil | refine allSub_succ' ?_ (Ty.sub_any _) | refine allSub_succ' ?_ (Ty.sub_refl _) | refine allTags_cons rfl (Cont.sub_subs ?_) ?_ | refine subs_cons ?_ (Ty.sub_refl _) | refine subs_cons ?_ ?_)))
      all_goals first | exact Ty.sub_int (num_wrap hn0 (by omega) hx hc1) | exact Ty.sub_bool (num_yes (p := p) hc1).2
    ·
      refine t_skip ?_
      refine i_join ?_
      (refine Ent.mk' ?_ ?_ <;> (repeat' (first | exact allSub_zero | exact allTags_nil | exact subs_nil | refine allSub_succ' ?_ (Ty.sub_any _) | refine allSub_succ' ?_ (Ty.sub_refl _) | refine allTags_cons rfl (Cont.sub_subs ?_) ?_ | refine subs_cons ?_ (Ty.sub_refl _) | refine subs_cons ?_ ?_)))
      all_goals first | exact Ty.sub_int (num_no hc1).1 | exact Ty.sub_bool (num_no hc1).2
  ·
    refine t_seq ?_
    refine t_seq ?_
    refine t_region ?_
    refine mvO rfl ?_
    refine r_nilCheck_ptr rfl ?_
    refine r_field_ptr rfl rfl rfl rfl rfl (by decide) ?_
    refine r_field_ptr rfl rfl rfl rfl rfl (by decide) ?_
    refine r_load_ptr rfl rfl (by decide) rfl rfl rfl ?_
    refine r_add rfl rfl (by omega) (by omega) ?_
    refine r_nilCheck_ptr rfl ?_
    refine r_field_ptr rfl rfl rfl rfl rfl (by decide) ?_
    refine r_field_ptr rfl rfl rfl rfl rfl (by decide) ?_
    refine r_store1 rfl rfl (by decide) rfl rfl (by exact (rfl : _ = Ty.int _ _)) rfl (by exact Nat.le_of_ble_eq_true rfl) rfl rfl (by exact rfl) ?_
    refine r_nil ?_
    refine i_then ?_
    refine t_seq ?_
    refine t_draw mixed rfl ?_
    refine mvO rfl ?_
    refine r_nilCheck_ptr rfl ?_
    refine r_field_ptr rfl rfl rfl rfl rfl (by decide) ?_
    refine r_field_ptr rfl rfl rfl rfl rfl (by decide) ?_
    refine r_load_ptr rfl rfl (by decide) rfl rfl rfl ?_
    refine mvO rfl ?_
    refine r_nilCheck_ptr rfl ?_
    refine r_field_ptr rfl rfl rfl rfl rfl (by decide) ?_
    refine r_field_ptr rfl rfl rfl rfl rfl (by decide) ?_
    refine r_load_ptr rfl rfl (by decide) rfl rfl rfl ?_
    refine mvO rfl ?_
    refine r_nilCheck_ptr rfl ?_
    refine r_field_ptr rfl rfl rfl rfl rfl (by decide) ?_
    refine r_field_ptr rfl rfl rfl rfl rfl (by decide) ?_
    refine r_load_ptr rfl rfl (by decide) rfl rfl rfl ?_
    refine r_index_sl rfl rfl rfl rfl rfl rfl (by omega) (by omega) ?_
    refine r_load_pp rfl rfl rfl rfl ?_
    refine r_bin rfl rfl rfl ?_
    refine r_nil ?_
    refine ⟨by kernel_rfl, ?_⟩
    refine i_then ?_
    refine t_cond_dec rfl (fun hc2 => ?_) (fun hc2 => ?_)
    ·
      refine t_ret ?_
      refine i_then_ret ?_
      refine g_ret0 [1000, 1001] rfl (by decide) ?_
      exact rc_cons rfl (cc_rdr (by decide) (by decide) (fig_1 hc2)) rc_nil
    ·
      refine t_skip ?_
      refine i_then ?_
      refine t_seq ?_
      refine t_forget (B := live [(0, Ty.ptr 1000 0)] [(1000, Cont.cells 177 (rdrF f p c (p.offset + 1) 1001))]) ?_ ?_
      · (refine Ent.mk' ?_ ?_ <;> (repeat' (first | exact allSub_zero | exact allTags_nil | refine allSub_succ' ?_ (Ty.sub_any _) | refine allSub_succ' ?_ (Ty.sub_refl _) | refine allTags_cons rfl (Cont.sub_refl _) ?_)))
      refine t_ownCellC (D := 1000) (Tb := 177) (tg := 1001) (E := BRowE) [Ty.sl I64 f.widths, Ty.int .i64 f.lines, Ty.int .i64 p.rows, Ty.int .i64 p.page, Ty.bool p.begun, Ty.bool p.closed, Ty.int .i64 p.column, Ty.int .i64 (p.offset + 1), Ty.int .i64 (numF p c), Ty.bool (digF' p c)] rfl fun kq => ?_
      refine t_draw mixed rfl ?_
      refine mvO rfl ?_
      refine r_nilCheck_ptr rfl ?_
      refine r_field_ptr rfl rfl rfl rfl rfl (by decide) ?_
      refine r_load_ptr rfl rfl (by decide) rfl rfl rfl ?_
      refine mvO rfl ?_
      refine r_nilCheck_ptr rfl ?_
      refine r_field_ptr rfl rfl rfl rfl rfl (by decide) ?_
      refine r_load_ptr rfl rfl (by decide) rfl rfl rfl ?_
      refine r_len_rc rfl rfl rfl ?_
      refine r_sub rfl rfl (by omega) (by omega) ?_
      refine r_index_rcI (p.read.length - 1) rfl rfl (by omega) rfl rfl rfl (by omega) ?_
      refine asO rfl ?_
      refine r_nil ?_
      refine ⟨by kernel_rfl, ?_⟩
      refine i_then ?_
      refine t_seq ?_
      refine t_draw mixed rfl ?_
      refine mvO rfl ?_
      refine mvO rfl ?_
      refine r_nilCheck_ptr rfl ?_
      refine r_field_ptr rfl rfl rfl rfl rfl (by decide) ?_
      refine r_load_rc (E := BRowE) (tg := 1001) (i := p.read.length - 1) (o := 0) rfl rfl (by decide) rfl rfl (by omega) rfl ?_
      refine r_call (c_Clip_int _) rfl rfl rfl rfl rfl ?_
      refine mvO rfl ?_
      refine r_nilCheck_ptr rfl ?_
      refine r_field_ptr rfl rfl rfl rfl rfl (by decide) ?_
      refine r_field_ptr rfl rfl rfl rfl rfl (by decide) ?_
      refine r_load_ptr rfl rfl (by decide) rfl rfl rfl ?_
      refine r_buildSlice (E := I64) (xs := [_]) rfl rfl rfl rfl rfl (by decide) (by decide) (by repeat (first | exact (Parts.nil : Parts _ _ [] _) | (show Parts _ _ ((_, _) :: _) _; apply Parts.one; (· exact (rfl : _ = Ty.int _ _)); (· exact rfl)))) (by exact rfl) rfl ?_
      refine r_appendFP rfl rfl (Nat.succ_pos _) rfl rfl rfl rfl rfl rfl (by decide) (len_A hnl) (len_B hnl) ?_
      refine r_nilCheck_ptr rfl ?_
      refine r_field_ptr rfl rfl rfl rfl rfl (by decide) ?_
      refine r_store_rc (E := BRowE) (tg := 1001) (i := p.read.length - 1) (o := 0) (z := ⟨(nth p.read (p.read.length - 1)).nums ++ [numF p c], (nth p.read (p.read.length - 1)).struck⟩) rfl rfl (by decide) rfl rfl rfl rfl (by omega) (by decide) rfl rfl ?_
      refine r_nil ?_
      refine ⟨by kernel_rfl, ?_⟩
      refine i_then ?_
      refine t_seq ?_
      refine t_forget (B := live [(0, Ty.ptr 1000 0), (4, Ty.ptr 1001 ((p.read.length - 1) * 2))] [(1000, Cont.cells 177 [Ty.sl I64 f.widths, Ty.int .i64 f.lines, Ty.int .i64 p.rows, Ty.int .i64 p.page, Ty.bool p.begun, Ty.bool p.closed, Ty.int .i64 p.column, Ty.int .i64 (p.offset + 1), Ty.int .i64 (numF p c), Ty.bool (digF' p c), Ty.rc 1001 p.read.length kq, Ty.str (bs p.must)]), (1001, Cont.rcv BRowE 66 (p.read.set (p.read.length - 1) ⟨(nth p.read (p.read.length - 1)).nums ++ [numF p c], (nth p.read (p.read.length - 1)).struck⟩) kq)]) ?_ ?_
      · (refine Ent.mk' ?_ ?_ <;> (repeat' (first | exact allSub_zero | exact allTags_nil | refine allSub_succ' ?_ (Ty.sub_any _) | refine allSub_succ' ?_ (Ty.sub_refl _) | refine allTags_cons rfl (Cont.sub_refl _) ?_)))
      refine t_unownCellC (D := 1000) (Tb := 177) (tg := 1001) (E := BRowE) [Ty.sl I64 f.widths, Ty.int .i64 f.lines, Ty.int .i64 p.rows, Ty.int .i64 p.page, Ty.bool p.begun, Ty.bool p.closed, Ty.int .i64 p.column, Ty.int .i64 (p.offset + 1), Ty.int .i64 (numF p c), Ty.bool (digF' p c)] (by decide) rfl rfl (by rw [List.length_set]) ?_
      refine t_region ?_
      refine mvO rfl ?_
      refine mvO rfl ?_
      refine mvO rfl ?_
      refine mvO rfl ?_
      refine r_nilCheck_ptr rfl ?_
      refine r_field_ptr rfl rfl rfl rfl rfl (by decide) ?_
      refine r_store1 rfl rfl (by decide) rfl rfl (by exact (rfl : _ = Ty.str _)) rfl (by exact Nat.le_of_ble_eq_true rfl) rfl rfl (by exact rfl) ?_
      refine r_nilCheck_ptr rfl ?_
      refine r_field_ptr rfl rfl rfl rfl rfl (by decide) ?_
      refine r_field_ptr rfl rfl rfl rfl rfl (by decide) ?_
      refine r_store1 rfl rfl (by decide) rfl rfl (by exact (rfl : _ = Ty.int _ _)) rfl (by exact Nat.le_of_ble_eq_true rfl) rfl rfl (by exact rfl) ?_
      refine r_nilCheck_ptr rfl ?_
      refine r_field_ptr rfl rfl rfl rfl rfl (by decide) ?_
      refine r_field_ptr rfl rfl rfl rfl rfl (by decide) ?_
      refine r_store1 rfl rfl (by decide) rfl rfl (by exact (rfl : _ = Ty.bool _)) rfl (by exact Nat.le_of_ble_eq_true rfl) rfl rfl (by exact rfl) ?_
      refine r_nilCheck_ptr rfl ?_
      refine r_field_ptr rfl rfl rfl rfl rfl (by decide) ?_
      refine r_field_ptr rfl rfl rfl rfl rfl (by decide) ?_
      refine r_store1 rfl rfl (by decide) rfl rfl (by exact (rfl : _ = Ty.int _ _)) rfl (by exact Nat.le_of_ble_eq_true rfl) rfl rfl (by exact rfl) ?_
      refine r_nil ?_
      refine i_then ?_
      refine t_seq ?_
      refine t_forget (B := live [(0, Ty.ptr 1000 0), (4, Ty.ptr 1001 ((p.read.length - 1) * 2))] [(1000, Cont.cells 177 [Ty.sl I64 f.widths, Ty.int .i64 f.lines, Ty.int .i64 p.rows, Ty.int .i64 p.page, Ty.bool p.begun, Ty.bool p.closed, Ty.int .i64 p.column, Ty.int .i64 0, Ty.int .i64 0, Ty.bool false, Ty.row BRowE 66 1001 (p.read.set (p.read.length - 1) ⟨(nth p.read (p.read.length - 1)).nums ++ [numF p c], (nth p.read (p.read.length - 1)).struck⟩), Ty.str (bs [124])]), (1001, Cont.rcv BRowE 66 (p.read.set (p.read.length - 1) ⟨(nth p.read (p.read.length - 1)).nums ++ [numF p c], (nth p.read (p.read.length - 1)).struck⟩) kq)]) ?_ ?_
      · (refine Ent.mk' ?_ ?_ <;> (repeat' (first | exact allSub_zero | exact allTags_nil | refine allSub_succ' ?_ (Ty.sub_any _) | refine allSub_succ' ?_ (Ty.sub_refl _) | refine allTags_cons rfl (Cont.sub_refl _) ?_)))
      refine t_region ?_
      refine mvO rfl ?_
      refine r_nilCheck_ptr rfl ?_
      refine r_field_ptr rfl rfl rfl rfl rfl (by decide) ?_
      refine r_field_ptr rfl rfl rfl rfl rfl (by decide) ?_
      refine r_load_ptr rfl rfl (by decide) rfl rfl rfl ?_
      refine r_add rfl rfl (by omega) (by omega) ?_
      refine r_nilCheck_ptr rfl ?_
      refine r_field_ptr rfl rfl rfl rfl rfl (by decide) ?_
      refine r_field_ptr rfl rfl rfl rfl rfl (by decide) ?_
      refine r_store1 rfl rfl (by decide) rfl rfl (by exact (rfl : _ = Ty.int _ _)) rfl (by exact Nat.le_of_ble_eq_true rfl) rfl rfl (by exact rfl) ?_
      refine r_nil ?_
      refine i_then ?_
      refine t_seq ?_
      refine t_draw mixed rfl ?_
      refine mvO rfl ?_
      refine r_nilCheck_ptr rfl ?_
      refine r_field_ptr rfl rfl rfl rfl rfl (by decide) ?_
      refine r_field_ptr rfl rfl rfl rfl rfl (by decide) ?_
      refine r_load_ptr rfl rfl (by decide) rfl rfl rfl ?_
      refine mvO rfl ?_
      refine r_nilCheck_ptr rfl ?_
      refine r_field_ptr rfl rfl rfl rfl rfl (by decide) ?_
      refine r_field_ptr rfl rfl rfl rfl rfl (by decide) ?_
      refine r_load_ptr rfl rfl (by decide) rfl rfl rfl ?_
      refine r_len rfl rfl rfl ?_
      refine r_bin rfl rfl rfl ?_
      refine r_nil ?_
      refine ⟨by kernel_rfl, ?_⟩
      refine i_then ?_
      refine t_cond_dec rfl (fun hc3 => ?_) (fun hc3 => ?_)
      ·
        refine t_seq ?_
        have hfull : RowOk f (nth (p.read.set (p.read.length - 1) ⟨(nth p.read (p.read.length - 1)).nums ++ [numF p c], (nth p.read (p.read.length - 1)).struck⟩) (p.read.length - 1)) := by rw [← pushN_set n1, n2]; exact push_full ho hb hc hc2 hc3
        refine t_draw mixed rfl ?_
        refine mvO rfl ?_
        refine r_nilCheck_ptr rfl ?_
        refine r_field_ptr rfl rfl rfl rfl rfl (by decide) ?_
        refine r_load_ptr rfl rfl (by decide) rfl rfl rfl ?_
        refine mvO rfl ?_
        refine r_nilCheck_ptr rfl ?_
        refine r_field_ptr rfl rfl rfl rfl rfl (by decide) ?_
        refine r_load_ptrN rfl rfl (by decide) rfl rfl (by exact Nat.le_of_ble_eq_true rfl) ?_
        refine mvO rfl ?_
        refine r_nilCheck_ptr rfl ?_
        refine r_load_rcE (E := BRowE) (tg := 1001) (p.read.length - 1) rfl rfl rfl (by decide) rfl rfl rfl (by rw [List.length_set]; omega) ?_
        refine r_call (c_letter f ho.form _ hfull) rfl rfl rfl rfl rfl ?_
        refine r_catS rfl rfl (by (simp <;> omega)) ?_
        refine r_catS rfl rfl (by (simp <;> omega)) ?_
        refine r_nilCheck_ptr rfl ?_
        refine r_field_ptr rfl rfl rfl rfl rfl (by decide) ?_
        refine r_store1 rfl rfl (by decide) rfl rfl (by exact (rfl : _ = Ty.str _)) rfl (by exact Nat.le_of_ble_eq_true rfl) rfl rfl (by exact rfl) ?_
        refine r_nil ?_
        refine ⟨by kernel_rfl, ?_⟩
        refine i_then ?_
        refine t_seq ?_
        refine t_region ?_
        refine mvO rfl ?_
        refine r_nilCheck_ptr rfl ?_
        refine r_field_ptr rfl rfl rfl rfl rfl (by decide) ?_
        refine r_field_ptr rfl rfl rfl rfl rfl (by decide) ?_
        refine r_store1 rfl rfl (by decide) rfl rfl (by exact (rfl : _ = Ty.bool _)) rfl (by exact Nat.le_of_ble_eq_true rfl) rfl rfl (by exact rfl) ?_
        refine r_nil ?_
        refine i_then ?_
        refine t_seq ?_
        refine t_region ?_
        refine mvO rfl ?_
        refine r_nilCheck_ptr rfl ?_
        refine r_field_ptr rfl rfl rfl rfl rfl (by decide) ?_
        refine r_field_ptr rfl rfl rfl rfl rfl (by decide) ?_
        refine r_load_ptr rfl rfl (by decide) rfl rfl rfl ?_
        refine r_add rfl rfl (by omega) (by omega) ?_
        refine r_nilCheck_ptr rfl ?_
        refine r_field_ptr rfl rfl rfl rfl rfl (by decide) ?_
        refine r_field_ptr rfl rfl rfl rfl rfl (by decide) ?_
        refine r_store1 rfl rfl (by decide) rfl rfl (by exact (rfl : _ = Ty.int _ _)) rfl (by exact Nat.le_of_ble_eq_true rfl) rfl rfl (by exact rfl) ?_
        refine r_nil ?_
        refine i_then ?_
        refine t_region ?_
        refine mvO rfl ?_
        refine r_nilCheck_ptr rfl ?_
        refine r_field_ptr rfl rfl rfl rfl rfl (by decide) ?_
        refine r_field_ptr rfl rfl rfl rfl rfl (by decide) ?_
        refine r_load_ptr rfl rfl (by decide) rfl rfl rfl ?_
        refine r_add rfl rfl (by omega) (by omega) ?_
        refine r_nilCheck_ptr rfl ?_
        refine r_field_ptr rfl rfl rfl rfl rfl (by decide) ?_
        refine r_field_ptr rfl rfl rfl rfl rfl (by decide) ?_
        refine r_store1 rfl rfl (by decide) rfl rfl (by exact (rfl : _ = Ty.int _ _)) rfl (by exact Nat.le_of_ble_eq_true rfl) rfl rfl (by exact rfl) ?_
        refine r_nil ?_
        refine i_end ?_
        refine g_ret0 [1000, 1001] rfl (by decide) ?_
        exact rc_cons rfl (cc_rdr (by decide) (by decide) (fig_e3 n1 hc2 hc3)) rc_nil
      ·
        refine t_skip ?_
        refine i_end ?_
        refine g_ret0 [1000, 1001] rfl (by decide) ?_
        exact rc_cons rfl (cc_rdr (by decide) (by decide) (fig_e2 n1 hc2 hc3)) rc_nil
end Go.Proofs.YtjjndkenddigiaaGreatDoor

namespace Go.Proofs.YtjjndkenddigiaaGreatDoor
open Go Go.T
def stepQ (f : BForm) (p : Rdr) (c : UInt8) : Rdr := if c ∈ canR f p then nextR f p c else p
theorem stepQ_no {f : BForm} {p : Rdr} {c : UInt8} (h : ¬ c ∈ canR f p) : stepQ f p c = p := if_neg h
theorem stepQ_yes {f : BForm} {p : Rdr} {c : UInt8} (h : c ∈ canR f p) : stepQ f p c = nextR f p c := if_pos h
theorem u8_eq {a : UInt8} {n : Nat} (hn : n < 256) : ((a.toNat : Int) = n) ↔ a = UInt8.ofNat n := by
  constructor
  · intro h
    apply UInt8.toNat_inj.1
    rw [UInt8.toNat_ofNat']; omega
  · rintro rfl
    rw [UInt8.toNat_ofNat']; omega
theorem next_m {f : BForm} {p : Rdr} {c : UInt8} (h : ¬ p.must = []) : nextR f p c = { p with must := p.must.drop 1 } := by
  unfold nextR; cases hm : p.must with
  | nil => exact absurd hm h
  | cons x t => rfl
theorem next_0 {f : BForm} {p : Rdr} {c : UInt8} (h : p.must = []) : nextR f p c = if p.begun then figR f p c else if c = 43 then { p with must := lineB f p.read, page := 0, closed := false }
    else if c = 61 then { p with must := lineB f p.read, closed := true } else { p with read := p.read ++ [⟨[], decide (c = 45)⟩], begun := true, column := 0, offset := 0 } := by
  unfold nextR; rw [h]
theorem next_f {f : BForm} {p : Rdr} {c : UInt8} (h : p.must = []) (hb : p.begun = true) : nextR f p c = figR f p c := by rw [next_0 h, if_pos hb]
theorem next_p {f : BForm} {p : Rdr} {c : UInt8} (h : p.must = []) (hb : p.begun = false) (hc : (c.toNat : Int) = 43) : nextR f p c = { p with must := lineB f p.read, page := 0, closed := false } := by
  have e : c = 43 := (u8_eq (n := 43) (by decide)).1 hc
  rw [next_0 h, if_neg (ng hb), if_pos e]
theorem next_e {f : BForm} {p : Rdr} {c : UInt8} (h : p.must = []) (hb : p.begun = false) (hc : (c.toNat : Int) = 61) : nextR f p c = { p with must := lineB f p.read, closed := true } := by
  have e : c = 61 := (u8_eq (n := 61) (by decide)).1 hc
  rw [next_0 h, if_neg (ng hb), if_neg (by rw [e]; decide), if_pos e]
theorem next_r {f : BForm} {p : Rdr} {c : UInt8} (h : p.must = []) (hb : p.begun = false) (h1 : ¬ (c.toNat : Int) = 43) (h2 : ¬ (c.toNat : Int) = 61) : nextR f p c = { p with read := p.read ++ [⟨[], decide ((c.toNat : Int) = 45)⟩], begun := true, column := 0, offset := 0 } := by
  rw [next_0 h, if_neg (ng hb), if_neg (fun e => h1 (by rw [e]; rfl)), if_neg (fun e => h2 (by rw [e]; rfl))]
  rw [show decide (c = 45) = decide ((c.toNat : Int) = 45) from decide_eq_decide.2 (u8_eq (n := 45) (by decide)).symm]
theorem mem_step {l : Byt} {c : UInt8} {k : Nat} (hk : k < l.length) : (decide (c ∈ l.take k) || decide (((nth l k).toNat : Int) = (c.toNat : Int))) = decide (c ∈ l.take (k + 1)) := by
  rw [take_nth hk, Bool.eq_iff_iff]
  simp only [Bool.or_eq_true, decide_eq_true_eq, List.mem_append, List.mem_singleton]
  refine or_congr Iff.rfl ⟨fun h => ?_, fun h => by rw [h]⟩
  apply UInt8.toNat_inj.1; omega
theorem mem_end {l : Byt} {c : UInt8} : decide (c ∈ l.take (l.map u8Enc).length) = decide (c ∈ l) := by rw [List.length_map, List.take_length]
theorem twelve {vs : List Value} {n : Nat} (h : vs.length = n) (e : n = 12) : ∃ v0 v1 v2 v3 v4 v5 v6 v7 v8 v9 v10 v11, vs = [v0, v1, v2, v3, v4, v5, v6, v7, v8, v9, v10, v11] := by
  subst e
  match vs, h with
  | [v0, v1, v2, v3, v4, v5, v6, v7, v8, v9, v10, v11], _ => exact ⟨v0, v1, v2, v3, v4, v5, v6, v7, v8, v9, v10, v11, rfl⟩
theorem plain_arrI (xs : List Int) : (Ty.arr I64 xs).Plain := fun _ _ _ _ _ ⟨cs, e, h⟩ => ⟨cs, e, plain_dens (fun t ht => by
  obtain ⟨x, _, hx⟩ := List.mem_flatMap.1 ht
  rw [show t = Ty.int .i64 x from List.mem_singleton.1 hx]; exact plain_int _ _) h⟩
theorem whole_eq (p : Rdr) : (p.closed && decide (p.must = [])) = wholeR p := by unfold wholeR; cases p.must <;> simp
end Go.Proofs.YtjjndkenddigiaaGreatDoor

namespace Go.Proofs.YtjjndkenddigiaaGreatDoor
open Go Go.T
set_option maxHeartbeats 1000000
attribute [local irreducible] figC canR numF digF' pushN letB lineB figR nextR stepQ sumL
attribute [local irreducible] dInt dBool dSl dPp dPtr dAgg dTup dClo dAny dEx dStr dGd dCells dVec dVs dRow dOp nth Tri Into TOps Ctr bodyPost Exit.then Exit.inBlock Code.wp Code.wpIn dPa dArr dMp dMap CtrG keepPost iterPost bodyPostM roundQ
set_option maxRecDepth 100000 in
theorem k_whole (f : BForm) (p : Rdr) : CtrG Tryz.prog 121 [1000, 1001] [(1000, Cont.cells 177 (rdrT f p 1001))] [Ty.ptr 1000 0] [(1000, Cont.cells 177 (rdrT f p 1001))] (Ty.bool (wholeR p)) := by
  refine fnG_intro Tryz.func121 rfl (by decide) Tryz.ntmps121 (by exact Nat.le_of_ble_eq_true rfl) fun w0 M0 => ?_
  refine t_seq ?_
  refine t_region ?_
  refine asB rfl ?_
  refine r_nil ?_
  refine i_then ?_
  refine t_seq ?_
  refine t_region ?_
  refine mvO rfl ?_
  refine r_nilCheck_ptr rfl ?_
  refine r_field_ptr rfl rfl rfl rfl rfl (by decide) ?_
  refine r_field_ptr rfl rfl rfl rfl rfl (by decide) ?_
  refine r_load_ptr rfl rfl (by decide) rfl rfl rfl ?_
  refine mvB rfl ?_
  apply r_guard (s := 8) rfl rfl rfl
  · intro hg; apply opT_of; (refine mvO rfl ?_); refine r_nil ?_; exact rfl
  · exact rfl
  · exact rfl
  apply r_guard (s := 8) rfl rfl rfl
  · intro hg; apply opT_strip (s := 9) rfl (by (rw [hg]; rfl)); apply opT_of; (refine r_nilCheck_ptr rfl ?_); refine r_nil ?_; exact rfl
  · exact rfl
  · exact rfl
  apply r_guard (s := 8) rfl rfl rfl
  · intro hg; apply opT_strip (s := 10) rfl (by (rw [hg]; rfl)); apply opT_of; (refine r_field_ptr rfl rfl rfl rfl rfl (by decide) ?_); refine r_nil ?_; exact rfl
  · exact rfl
  · exact rfl
  apply r_guard (s := 8) rfl rfl rfl
  · intro hg; apply opT_strip (s := 11) rfl (by (rw [hg]; rfl)); apply opT_of; (refine r_load_ptr rfl rfl (by decide) rfl rfl rfl ?_); refine r_nil ?_; exact rfl
  · exact rfl
  · exact rfl
  apply r_guard (s := 8) rfl rfl rfl
  · intro hg; apply opT_strip (s := 12) rfl (by (rw [hg]; rfl)); apply opT_of; (refine r_eqlS rfl rfl ?_); refine r_nil ?_; exact rfl
  · exact rfl
  · exact rfl
  refine r_and rfl rfl ?_
  refine asB rfl ?_
  refine r_nil ?_
  refine i_then ?_
  refine t_ret ?_
  refine g_ret1 [1000, 1001] rfl rfl (by decide) ?_ ?_
  exact rc_cons rfl (cc_rdr (by decide) (by decide) rfl) rc_nil
  all_goals skip
  all_goals exact rg_cv (cv_sub rfl rfl (Ty.sub_bool (whole_eq p)))
set_option maxRecDepth 100000 in
theorem k_step (f : BForm) (p : Rdr) (ho : RdrOk f p) (c : UInt8) : CtrG Tryz.prog 120 [1000] [(1000, Cont.cells 177 (rdrT f p 1001))] [Ty.ptr 1000 0, Ty.int .u8 (c.toNat : Int)] [(1000, Cont.cells 177 (rdrT f (stepQ f p c) 1001))] (Ty.bool (decide (c ∈ canR f p))) := by
  refine fnMG_intro Tryz.func120 rfl (by decide) Tryz.ntmps120 (by exact Nat.le_of_ble_eq_true rfl) fun w0 M0 => ?_
  have hlp := ho.len
  have hr0 := ho.r0
  refine t_seq ?_
  refine t_region ?_
  refine r_box_one (by exact (rfl : _ = Ty.int _ _)) rfl ?_
  refine asB rfl ?_
  refine r_nil ?_
  refine i_then ?_
  refine t_seq ?_
  refine t_region ?_
  refine r_alloc rfl (by exact List.cons_ne_nil _ _) rfl ?_
  refine r_store1 rfl rfl (by decide) rfl rfl (by exact (rfl : _ = Ty.bool _)) rfl (by exact Nat.le_of_ble_eq_true rfl) rfl rfl (by exact (rfl : _ = [_])) ?_
  refine r_nil ?_
  refine i_then ?_
  refine t_seq ?_
  refine t_seq ?_
  refine t_region ?_
  refine mvO rfl ?_
  refine r_callG (res' := Ty.clo 151 [Ty.pp [Ty.ptr 1000 0]]) [(1000, 1000), (1001, 1001)] [] [(1000, Cont.cells 177 (rdrT f p 1001))] (k_can f p) rfl rfl (cv_cons cv_nil (cv_ptr (by exact List.mem_cons_self))) (pre_cons (a := 1000) (b := 1000) (by exact List.mem_cons_self) rfl (cc_rdr (by exact List.mem_cons_self) (List.mem_cons_of_mem _ List.mem_cons_self) rfl) pre_nil) (post_cons (a := 1000) (b := 1000) (by exact List.mem_cons_self) rfl (cc_rdr (by exact List.mem_cons_self) (List.mem_cons_of_mem _ List.mem_cons_self) rfl) post_nil) (cv_clo (cv_cons cv_nil (cv_pp (cv_cons cv_nil (cv_ptr (by exact List.mem_cons_self)))))) ?_
  refine r_nil ?_
  refine i_then ?_
  refine t_nameR (D := 1000) (Tb := 177) (tg := 1001) [Ty.sl I64 f.widths, Ty.int .i64 f.lines, Ty.int .i64 p.rows, Ty.int .i64 p.page, Ty.bool p.begun, Ty.bool p.closed, Ty.int .i64 p.column, Ty.int .i64 p.offset, Ty.int .i64 p.number, Ty.bool p.digits] rfl fun vn => ?_
  refine t_name (D := 1000) (Tb := 177) (tys := rdrN f p vn) (r := []) rfl rfl rfl (by decide) fun vs hvs => ?_
  obtain ⟨v0, v1, v2, v3, v4, v5, v6, v7, v8, v9, v10, v11, rfl⟩ := twelve hvs rfl
  refine t_block ?_
  refine t_rangeFuncT (ps := [9]) (lk [(0, Ty.ptr 1000 0), (3, Ty.pp [Ty.int .u8 (c.toNat : Int)]), (5, Ty.ptr 6 0)]) (fun k => [(6, Cont.cells 4 [Ty.bool (decide (c ∈ (canR f p).take k))]), (1000, Cont.cells 177 [Ty.ex v0, Ty.ex v1, Ty.ex v2, Ty.ex v3, Ty.ex v4, Ty.ex v5, Ty.ex v6, Ty.ex v7, Ty.ex v8, Ty.ex v9, Ty.ex v10, Ty.ex v11]), (1001, Cont.rv vn BRowE 66 1001 p.read), (4000, Cont.fact (rdrN f p vn) [v0, v1, v2, v3, v4, v5, v6, v7, v8, v9, v10, v11] rfl rfl)]) false [] [6, 1000, 1001, 4000] rfl rfl ((c_can1 f p ho vn 0 1000 [v0, v1, v2, v3, v4, v5, v6, v7, v8, v9, v10, v11]).1) (ranges_X (D := 1000) (n := 111) (sd := 0) (r := fun k => []) (fun b => c_can1 f p ho vn b 1000 [v0, v1, v2, v3, v4, v5, v6, v7, v8, v9, v10, v11]) (by decide) (by decide) rfl (fun k => List.mem_cons_of_mem _ List.mem_cons_self) (List.mem_cons_of_mem _ (List.mem_cons_of_mem _ (List.mem_cons_of_mem _ List.mem_cons_self)))) (deps_lt rfl) (deps_lt rfl) (by decide) (by intro t ht; obtain ⟨x, _, rfl⟩ := List.mem_map.1 ht; exact ⟨rfl, rfl, rfl⟩) rfl rfl (fun _ => rfl) rfl ?_ ?_ ?_ (by intro h; cases h)
  · (refine Ent.mk' ?_ ?_ <;> (repeat' (first | exact allSub_zero | exact allTags_nil | refine allSub_succ' ?_ (Ty.sub_any _) | refine allSub_succ' ?_ (Ty.sub_refl _) | refine allTags_cons rfl (Cont.sub_refl _) ?_)))
    all_goals trace_state
  · intro k tys hk
    obtain ⟨hk1, rfl⟩ := enc_get hk
    refine ⟨live [(0, Ty.ptr 1000 0), (3, Ty.pp [Ty.int .u8 (c.toNat : Int)]), (5, Ty.ptr 6 0), (6, Ty.int .u8 ((nth (canR f p) k).toNat : Int))] [(6, Cont.cells 4 [Ty.bool (decide (c ∈ (canR f p).take k))]), (1000, Cont.cells 177 [Ty.ex v0, Ty.ex v1, Ty.ex v2, Ty.ex v3, Ty.ex v4, Ty.ex v5, Ty.ex v6, Ty.ex v7, Ty.ex v8, Ty.ex v9, Ty.ex v10, Ty.ex v11]), (1001, Cont.rv vn BRowE 66 1001 p.read), (4000, Cont.fact (rdrN f p vn) [v0, v1, v2, v3, v4, v5, v6, v7, v8, v9, v10, v11] rfl rfl)], fun l w M => ?_, fun l w M => ?_⟩
    ·
      refine t_region ?_
      refine asI rfl ?_
      refine r_nil ?_
      refine i_join ?_
      (refine Ent.mk' ?_ ?_ <;> (repeat' (first | exact allSub_zero | exact allTags_nil | refine allSub_succ' ?_ (Ty.sub_any _) | refine allSub_succ' ?_ (Ty.sub_refl _) | refine allTags_cons rfl (Cont.sub_refl _) ?_)))
    ·
      refine t_block ?_
      refine t_region ?_
      refine r_load_ptr rfl rfl (by decide) rfl rfl rfl ?_
      refine mvB rfl ?_
      apply r_guard (s := 11) rfl rfl rfl
      · intro hg; apply opT_of; (refine mvI rfl ?_); refine r_nil ?_; exact rfl
      · exact rfl
      · exact rfl
      apply r_guard (s := 11) rfl rfl rfl
      · intro hg; apply opT_of; (refine r_load_pp rfl rfl rfl rfl ?_); refine r_nil ?_; exact rfl
      · exact rfl
      · exact rfl
      apply r_guard (s := 11) rfl rfl rfl
      · intro hg; apply opT_strip (s := 12) rfl (by (rw [hg]; rfl)); apply opT_strip (s := 13) rfl (by (rw [hg]; rfl)); apply opT_of; (refine r_bin rfl rfl rfl ?_); refine r_nil ?_; exact rfl
      · exact rfl
      · exact rfl
      refine r_or rfl rfl ?_
      refine r_store1 rfl rfl (by decide) rfl rfl (by exact (rfl : _ = Ty.bool _)) rfl (by exact Nat.le_of_ble_eq_true rfl) rfl rfl (by exact (rfl : _ = [_])) ?_
      refine r_nil ?_
      refine i_block ?_
      refine q_normal ?_
      (refine Ent.mk' ?_ ?_ <;> (repeat' (first | exact allSub_zero | exact allTags_nil | exact subs_nil | refine allSub_succ' ?_ (Ty.sub_any _) | refine allTags_cons rfl (Cont.sub_refl _) ?_ | refine allTags_cons rfl (Cont.sub_subs ?_) ?_ | refine subs_cons ?_ ?_)))
      all_goals exact Ty.sub_bool (mem_step hk1)
  ·
    refine i_block ?_
    refine i_then ?_
    refine t_seq ?_
    refine t_block ?_
    refine t_seq ?_
    refine t_unname (D := 1000) (Tb := 177) (vs := [v0, v1, v2, v3, v4, v5, v6, v7, v8, v9, v10, v11]) (tys := rdrN f p vn) (r := []) rfl rfl ?_
    refine t_unnameR (D := 1000) (Tb := 177) (tg := 1001) (E := BRowE) (T := 66) [Ty.sl I64 f.widths, Ty.int .i64 f.lines, Ty.int .i64 p.rows, Ty.int .i64 p.page, Ty.bool p.begun, Ty.bool p.closed, Ty.int .i64 p.column, Ty.int .i64 p.offset, Ty.int .i64 p.number, Ty.bool p.digits] rfl rfl ?_
    refine t_asC (tg := 6) (D := Cont.cells 4 [Ty.bool (decide (c ∈ canR f p))]) rfl (Cont.sub_subs ⟨Ty.sub_bool mem_end, trivial⟩) ?_
    refine t_forget (B := live [(0, Ty.ptr 1000 0), (3, Ty.pp [Ty.int .u8 (c.toNat : Int)]), (5, Ty.ptr 6 0)] [(6, Cont.cells 4 [Ty.bool (decide (c ∈ canR f p))]), (1000, Cont.cells 177 (rdrT f p 1001))]) ?_ ?_
    · (refine Ent.mk' ?_ ?_ <;> (repeat' (first | exact allSub_zero | exact allTags_nil | refine allSub_succ' ?_ (Ty.sub_any _) | refine allSub_succ' ?_ (Ty.sub_refl _) | refine allTags_cons rfl (Cont.sub_refl _) ?_)))
    refine t_region ?_
    refine r_load_ptr rfl rfl (by decide) rfl rfl rfl ?_
    refine r_not rfl ?_
    refine asB rfl ?_
    refine r_nil ?_
    refine i_then ?_
    refine t_cond_ndec rfl (fun hc1 => ?_) (fun hc1 => ?_)
    ·
      refine t_seq ?_
      refine t_region ?_
      refine asB rfl ?_
      refine r_nil ?_
      refine i_then ?_
      refine t_ret ?_
      refine i_block_ret ?_
      refine i_then_ret ?_
      refine m_ret rfl ?_
      refine g_ret1 [1000, 1001] rfl rfl (by decide) ?_ ?_
      exact rc_cons rfl (cc_rdr (ar := 1001) (by decide) (by decide) (by rw [stepQ_no hc1] <;> rfl)) rc_nil
      all_goals skip
      all_goals exact rg_cv (cv_sub rfl rfl (Ty.sub_bool (decide_eq_false hc1).symm))
    ·
      refine t_seq ?_
      refine t_region ?_
      refine mvO rfl ?_
      refine r_nilCheck_ptr rfl ?_
      refine r_field_ptr rfl rfl rfl rfl rfl (by decide) ?_
      refine r_load_ptr rfl rfl (by decide) rfl rfl rfl ?_
      refine r_neqS rfl rfl ?_
      refine asB rfl ?_
      refine r_nil ?_
      refine i_then ?_
      refine t_cond_ndec rfl (fun hc2 => ?_) (fun hc2 => ?_)
      ·
        have hmp := List.length_pos_iff.2 hc2
        refine t_region ?_
        refine mvO rfl ?_
        refine mvO rfl ?_
        refine r_nilCheck_ptr rfl ?_
        refine r_field_ptr rfl rfl rfl rfl rfl (by decide) ?_
        refine r_load_ptr rfl rfl (by decide) rfl rfl rfl ?_
        refine r_cutS_lo (lo := 1) rfl rfl rfl rfl (by omega) ?_
        refine r_nilCheck_ptr rfl ?_
        refine r_field_ptr rfl rfl rfl rfl rfl (by decide) ?_
        refine r_store1 rfl rfl (by decide) rfl rfl (by exact (rfl : _ = Ty.str _)) rfl (by exact Nat.le_of_ble_eq_true rfl) rfl rfl (by exact rfl) ?_
        refine r_nil ?_
        refine i_block ?_
        refine i_then ?_
        refine t_seq ?_
        refine t_region ?_
        refine asB rfl ?_
        refine r_nil ?_
        refine i_then ?_
        refine t_ret ?_
        refine m_ret rfl ?_
        refine g_ret1 [1000, 1001] rfl rfl (by decide) ?_ ?_
        exact rc_cons rfl (cc_rdr (ar := 1001) (by decide) (by decide) (by rw [stepQ_yes hc1, next_m hc2] <;> rfl)) rc_nil
        all_goals skip
        all_goals exact rg_cv (cv_sub rfl rfl (Ty.sub_bool (decide_eq_true hc1).symm))
      ·
        refine t_seq ?_
        refine t_region ?_
        refine mvO rfl ?_
        refine r_nilCheck_ptr rfl ?_
        refine r_field_ptr rfl rfl rfl rfl rfl (by decide) ?_
        refine r_field_ptr rfl rfl rfl rfl rfl (by decide) ?_
        refine r_load_ptr rfl rfl (by decide) rfl rfl rfl ?_
        refine asB rfl ?_
        refine r_nil ?_
        refine i_then ?_
        refine t_cond rfl (fun hc3 => ?_) (fun hc3 => ?_)
        ·
          refine t_region ?_
          refine mvO rfl ?_
          refine r_load_pp rfl rfl rfl rfl ?_
          refine r_callG [(1000, 1000), (1001, 1001)] [1001] [(1000, Cont.cells 177 (rdrT f (figR f p c) 1001))] (k_figure f p ho hc2 hc3 c (can_begun hc2 hc3 ▸ hc1)) rfl rfl (by repeat (first | exact cv_nil | refine cv_cons ?_ ?_ | exact cv_ptr List.mem_cons_self | exact cv_pub rfl rfl)) (pre_cons (a := 1000) (b := 1000) (by exact List.mem_cons_self) rfl (cc_rdr (by exact List.mem_cons_self) (List.mem_cons_of_mem _ List.mem_cons_self) rfl) pre_nil) (post_cons (a := 1000) (b := 1000) (by exact List.mem_cons_self) rfl (cc_rdr (by exact List.mem_cons_self) (List.mem_cons_of_mem _ List.mem_cons_self) rfl) post_nil) (cv_pub rfl rfl) ?_
          refine r_nil ?_
          refine i_block ?_
          refine i_then ?_
          refine t_seq ?_
          refine t_region ?_
          refine asB rfl ?_
          refine r_nil ?_
          refine i_then ?_
          refine t_ret ?_
          refine m_ret rfl ?_
          refine g_ret1 [1000, 1001] rfl rfl (by decide) ?_ ?_
          exact rc_cons rfl (cc_rdr (ar := 1001) (by decide) (by decide) (by rw [stepQ_yes hc1, next_f hc2 hc3] <;> rfl)) rc_nil
          all_goals skip
          all_goals exact rg_cv (cv_sub rfl rfl (Ty.sub_bool (decide_eq_true hc1).symm))
        ·
          refine t_seq ?_
          refine t_region ?_
          refine r_load_pp rfl rfl rfl rfl ?_
          refine r_bin rfl rfl rfl ?_
          refine asB rfl ?_
          refine r_nil ?_
          refine i_then ?_
          refine t_cond_dec rfl (fun hc4 => ?_) (fun hc4 => ?_)
          ·
            refine t_draw mixed rfl ?_
            refine mvO rfl ?_
            refine mvO rfl ?_
            refine mvO rfl ?_
            refine mvO rfl ?_
            refine r_nilCheck_ptr rfl ?_
            refine r_field_ptr rfl rfl rfl rfl rfl (by decide) ?_
            refine r_load_ptrN rfl rfl (by decide) rfl rfl (by exact Nat.le_of_ble_eq_true rfl) ?_
            refine mvO rfl ?_
            refine r_nilCheck_ptr rfl ?_
            refine r_field_ptr rfl rfl rfl rfl rfl (by decide) ?_
            refine r_load_ptr rfl rfl (by decide) rfl rfl rfl ?_
            refine r_callL [1001] (c_total p.read (ho.small hc3) (by omega)) rfl (by repeat (first | exact lends_nil | refine lends_cons (lend_row rfl) ?_)) (plain_arrI _) ?_
            refine r_call (c_line f ho.form p.read (ho.small hc3) (by omega)) rfl rfl rfl rfl rfl ?_
            refine r_nilCheck_ptr rfl ?_
            refine r_field_ptr rfl rfl rfl rfl rfl (by decide) ?_
            refine r_store1 rfl rfl (by decide) rfl rfl (by exact (rfl : _ = Ty.str _)) rfl (by exact Nat.le_of_ble_eq_true rfl) rfl rfl (by exact rfl) ?_
            refine r_nilCheck_ptr rfl ?_
            refine r_field_ptr rfl rfl rfl rfl rfl (by decide) ?_
            refine r_field_ptr rfl rfl rfl rfl rfl (by decide) ?_
            refine r_store1 rfl rfl (by decide) rfl rfl (by exact (rfl : _ = Ty.int _ _)) rfl (by exact Nat.le_of_ble_eq_true rfl) rfl rfl (by exact rfl) ?_
            refine r_nilCheck_ptr rfl ?_
            refine r_field_ptr rfl rfl rfl rfl rfl (by decide) ?_
            refine r_field_ptr rfl rfl rfl rfl rfl (by decide) ?_
            refine r_store1 rfl rfl (by decide) rfl rfl (by exact (rfl : _ = Ty.bool _)) rfl (by exact Nat.le_of_ble_eq_true rfl) rfl rfl (by exact rfl) ?_
            refine r_nil ?_
            refine ⟨by kernel_rfl, ?_⟩
            refine i_block ?_
            refine i_then ?_
            refine t_seq ?_
            refine t_region ?_
            refine asB rfl ?_
            refine r_nil ?_
            refine i_then ?_
            refine t_ret ?_
            refine m_ret rfl ?_
            refine g_ret1 [1000, 1001] rfl rfl (by decide) ?_ ?_
            exact rc_cons rfl (cc_rdr (ar := 1001) (by decide) (by decide) (by rw [stepQ_yes hc1, next_p hc2 hc3 hc4] <;> rfl)) rc_nil
            all_goals skip
            all_goals exact rg_cv (cv_sub rfl rfl (Ty.sub_bool (decide_eq_true hc1).symm))
          ·
            refine t_seq ?_
            refine t_region ?_
            refine r_load_pp rfl rfl rfl rfl ?_
            refine r_bin rfl rfl rfl ?_
            refine asB rfl ?_
            refine r_nil ?_
            refine i_then ?_
            refine t_cond_dec rfl (fun hc5 => ?_) (fun hc5 => ?_)
            ·
              refine t_draw mixed rfl ?_
              refine mvO rfl ?_
              refine mvO rfl ?_
              refine mvO rfl ?_
              refine r_nilCheck_ptr rfl ?_
              refine r_field_ptr rfl rfl rfl rfl rfl (by decide) ?_
              refine r_load_ptrN rfl rfl (by decide) rfl rfl (by exact Nat.le_of_ble_eq_true rfl) ?_
              refine mvO rfl ?_
              refine r_nilCheck_ptr rfl ?_
              refine r_field_ptr rfl rfl rfl rfl rfl (by decide) ?_
              refine r_load_ptr rfl rfl (by decide) rfl rfl rfl ?_
              refine r_callL [1001] (c_total p.read (ho.small hc3) (by omega)) rfl (by repeat (first | exact lends_nil | refine lends_cons (lend_row rfl) ?_)) (plain_arrI _) ?_
              refine r_call (c_line f ho.form p.read (ho.small hc3) (by omega)) rfl rfl rfl rfl rfl ?_
              refine r_nilCheck_ptr rfl ?_
              refine r_field_ptr rfl rfl rfl rfl rfl (by decide) ?_
              refine r_store1 rfl rfl (by decide) rfl rfl (by exact (rfl : _ = Ty.str _)) rfl (by exact Nat.le_of_ble_eq_true rfl) rfl rfl (by exact rfl) ?_
              refine r_nilCheck_ptr rfl ?_
              refine r_field_ptr rfl rfl rfl rfl rfl (by decide) ?_
              refine r_field_ptr rfl rfl rfl rfl rfl (by decide) ?_
              refine r_store1 rfl rfl (by decide) rfl rfl (by exact (rfl : _ = Ty.bool _)) rfl (by exact Nat.le_of_ble_eq_true rfl) rfl rfl (by exact rfl) ?_
              refine r_nil ?_
              refine ⟨by kernel_rfl, ?_⟩
              refine i_block ?_
              refine i_then ?_
              refine t_seq ?_
              refine t_region ?_
              refine asB rfl ?_
              refine r_nil ?_
              refine i_then ?_
              refine t_ret ?_
              refine m_ret rfl ?_
              refine g_ret1 [1000, 1001] rfl rfl (by decide) ?_ ?_
              exact rc_cons rfl (cc_rdr (ar := 1001) (by decide) (by decide) (by rw [stepQ_yes hc1, next_e hc2 hc3 hc5] <;> rfl)) rc_nil
              all_goals skip
              all_goals exact rg_cv (cv_sub rfl rfl (Ty.sub_bool (decide_eq_true hc1).symm))
            ·
              refine t_seq ?_
              refine t_nameRS (D := 1000) (Tb := 177) (tg := 1001) [Ty.sl I64 f.widths, Ty.int .i64 f.lines, Ty.int .i64 p.rows, Ty.int .i64 p.page, Ty.bool p.begun, Ty.bool p.closed, Ty.int .i64 p.column, Ty.int .i64 p.offset, Ty.int .i64 p.number, Ty.bool p.digits] rfl fun ad cap hcap => ?_
              refine t_draw mixed rfl ?_
              refine mvO rfl ?_
              refine mvO rfl ?_
              refine r_nilCheck_ptr rfl ?_
              refine r_field_ptr rfl rfl rfl rfl rfl (by decide) ?_
              refine r_load_ptr rfl rfl (by decide) rfl rfl rfl ?_
              refine r_call (c_Clip_row ad _ cap hcap) rfl rfl rfl rfl rfl ?_
              refine r_load_pp rfl rfl rfl rfl ?_
              refine r_bin rfl rfl rfl ?_
              refine tops_weak (Ty.agg (BRowE.tys ⟨[], decide ((c.toNat : Int) = 45)⟩)) (by apply opT_of; refine r_build rfl rfl (by exact List.cons_ne_nil _ _) rfl (by repeat (first | exact (Parts.nil : Parts _ _ [] _) | (show Parts _ _ ((_, _) :: _) _; apply Parts.one; (· exact (rfl : _ = Ty.bool _)); (· exact rfl)))) (by exact (rfl : _ = some [_, _])) ?_; refine r_nil ?_; exact rfl) (by exact Ty.sub_agg' ⟨Ty.nil_sl, Ty.sub_refl _, trivial⟩) ?_
              refine r_buildSlice (E := BRowE) (xs := [_]) rfl rfl rfl rfl rfl (by decide) (by decide) (by repeat (first | exact (Parts.nil : Parts _ _ [] _) | (show Parts _ _ ((_, _) :: _) _; apply Parts.agg; (· exact (rfl : _ = Ty.agg _))))) (by exact rfl) rfl ?_
              refine r_appendW (tg := 1001) (c := cap) (ad := ad) rfl rfl rfl (Nat.succ_pos _) (by decide) rfl rfl rfl rfl rfl rfl (by decide) (by show (p.read.length + 1) * 32 ≤ _; omega) (by show p.read.length + 1 ≤ _; omega) ?_
              refine r_nilCheck_ptr rfl ?_
              refine r_field_ptr rfl rfl rfl rfl rfl (by decide) ?_
              refine r_store1 rfl rfl (by decide) rfl rfl (by exact (rfl : _ = Ty.row _ _ _ _)) rfl (by exact Nat.le_of_ble_eq_true rfl) rfl rfl (by exact rfl) ?_
              refine r_nil ?_
              refine ⟨by kernel_rfl, ?_⟩
              refine i_then ?_
              refine t_forget (B := live [(0, Ty.ptr 1000 0)] [(1000, Cont.cells 177 [Ty.sl I64 f.widths, Ty.int .i64 f.lines, Ty.int .i64 p.rows, Ty.int .i64 p.page, Ty.bool p.begun, Ty.bool p.closed, Ty.int .i64 p.column, Ty.int .i64 p.offset, Ty.int .i64 p.number, Ty.bool p.digits, Ty.row BRowE 66 1001 (p.read ++ [⟨[], decide ((c.toNat : Int) = 45)⟩]), Ty.str (bs p.must)])]) ?_ ?_
              · (refine Ent.mk' ?_ ?_ <;> (repeat' (first | exact allSub_zero | exact allTags_nil | refine allSub_succ' ?_ (Ty.sub_any _) | refine allSub_succ' ?_ (Ty.sub_refl _) | refine allTags_cons rfl (Cont.sub_refl _) ?_)))
              refine t_region ?_
              refine mvO rfl ?_
              refine mvO rfl ?_
              refine mvO rfl ?_
              refine r_nilCheck_ptr rfl ?_
              refine r_field_ptr rfl rfl rfl rfl rfl (by decide) ?_
              refine r_field_ptr rfl rfl rfl rfl rfl (by decide) ?_
              refine r_store1 rfl rfl (by decide) rfl rfl (by exact (rfl : _ = Ty.bool _)) rfl (by exact Nat.le_of_ble_eq_true rfl) rfl rfl (by exact rfl) ?_
              refine r_nilCheck_ptr rfl ?_
              refine r_field_ptr rfl rfl rfl rfl rfl (by decide) ?_
              refine r_field_ptr rfl rfl rfl rfl rfl (by decide) ?_
              refine r_store1 rfl rfl (by decide) rfl rfl (by exact (rfl : _ = Ty.int _ _)) rfl (by exact Nat.le_of_ble_eq_true rfl) rfl rfl (by exact rfl) ?_
              refine r_nilCheck_ptr rfl ?_
              refine r_field_ptr rfl rfl rfl rfl rfl (by decide) ?_
              refine r_field_ptr rfl rfl rfl rfl rfl (by decide) ?_
              refine r_store1 rfl rfl (by decide) rfl rfl (by exact (rfl : _ = Ty.int _ _)) rfl (by exact Nat.le_of_ble_eq_true rfl) rfl rfl (by exact rfl) ?_
              refine r_nil ?_
              refine i_block ?_
              refine i_then ?_
              refine t_seq ?_
              refine t_region ?_
              refine asB rfl ?_
              refine r_nil ?_
              refine i_then ?_
              refine t_ret ?_
              refine m_ret rfl ?_
              refine g_ret1 [1000, 1001] rfl rfl (by decide) ?_ ?_
              exact rc_cons rfl (cc_rdr (ar := 1001) (by decide) (by decide) (by rw [stepQ_yes hc1, next_r hc2 hc3 hc4 hc5] <;> rfl)) rc_nil
              all_goals skip
              all_goals exact rg_cv (cv_sub rfl rfl (Ty.sub_bool (decide_eq_true hc1).symm))
end Go.Proofs.YtjjndkenddigiaaGreatDoor

namespace Go.Proofs.YtjjndkenddigiaaGreatDoor
open Go Go.T
set_option maxHeartbeats 1000000
theorem rep_drop' {l : List BRow} {n : Nat} {x : BRow} (h : n = l.length) : l ++ (List.replicate n x).drop l.length = l := by subst h; simp
theorem zro_row : Subs ([Value.slice none 0 0, Value.bool false].map Ty.ofVal) (BRowE.tys ⟨[], false⟩) := ⟨Ty.nil_sl, Ty.sub_refl _, trivial⟩
theorem set_same {l : List BRow} {k : Nat} : l.set k ⟨(nth l k).nums, (nth l k).struck⟩ = l := by
  by_cases h : k < l.length
  · have : (⟨(nth l k).nums, (nth l k).struck⟩ : BRow) = l[k] := by simp [nth, h]
    rw [this, List.set_getElem_self]
  · rw [List.set_eq_of_length_le (by omega)]
attribute [local irreducible] dInt dBool dSl dPp dPtr dAgg dTup dClo dAny dEx dStr dGd dCells dVec dVs dRow dOp nth Tri Into TOps Ctr bodyPost Exit.then Exit.inBlock Code.wp Code.wpIn dPa dArr dMp dMap CtrG keepPost iterPost bodyPostM roundQ
set_option maxRecDepth 100000 in
theorem c_own (b : Book) (h : b.rows.length ≤ 13) (hw : b.form.widths.length ≤ 1000) (hn : ∀ r ∈ b.rows, r.nums.length ≤ 1000) : Ctr Tryz.prog 95 [bokT b] (bokT b) := by
  refine fn_intro Tryz.func95 rfl (by decide) Tryz.ntmps95 (by exact Nat.le_of_ble_eq_true rfl) fun w0 M0 => ?_
  refine t_seq ?_
  refine t_region ?_
  refine r_box_agg rfl ?_
  refine r_alloc rfl (by exact List.cons_ne_nil _ _) rfl ?_
  refine r_nil ?_
  refine i_then ?_
  refine t_seq ?_
  refine t_draw mixed rfl ?_
  refine r_field_pp rfl rfl rfl rfl rfl (by decide) ?_
  refine r_field_pp rfl rfl rfl rfl rfl (by decide) ?_
  refine r_load_pp rfl rfl rfl rfl ?_
  refine r_call (c_Clone_int _ (by exact hw)) rfl rfl rfl rfl rfl ?_
  refine r_field_pp rfl rfl rfl rfl rfl (by decide) ?_
  refine r_field_pp rfl rfl rfl rfl rfl (by decide) ?_
  refine r_load_pp rfl rfl rfl rfl ?_
  refine r_build rfl rfl (by exact List.cons_ne_nil _ _) rfl (by repeat (first | exact (Parts.nil : Parts _ _ [] _) | (show Parts _ _ ((_, _) :: _) _; apply Parts.one; (· first | exact (rfl : _ = Ty.int _ _) | exact (rfl : _ = Ty.sl _ _)); (· exact rfl)))) (by exact (rfl : _ = some [_, _])) ?_
  refine r_field_pp rfl rfl rfl rfl rfl (by decide) ?_
  refine r_load_pp rfl rfl rfl rfl ?_
  refine r_len rfl rfl rfl ?_
  refine r_field_pp rfl rfl rfl rfl rfl (by decide) ?_
  refine r_load_pp rfl rfl rfl rfl ?_
  refine r_len rfl rfl rfl ?_
  refine r_add rfl rfl (by omega) (by omega) ?_
  refine r_makeRcZ (E := BRowE) (x0 := ⟨[], false⟩) rfl rfl rfl rfl rfl rfl zro_row (by decide) rfl (by omega) (by omega) (by (dsimp only; omega)) (by omega) ?_
  refine r_build rfl rfl (by exact List.cons_ne_nil _ _) rfl (by repeat (first | exact (Parts.nil : Parts _ _ [] _) | (show Parts _ _ ((_, _) :: _) _; apply Parts.one; (· exact (rfl : _ = Ty.rc _ _ _)); (· exact rfl)) | (show Parts _ _ ((_, _) :: _) _; apply Parts.agg; (· exact (rfl : _ = Ty.agg _))))) (by exact (rfl : _ = some [_, _, _])) ?_
  refine r_alloc rfl (by exact List.cons_ne_nil _ _) rfl ?_
  refine r_storeN rfl rfl (by decide) rfl rfl rfl rfl rfl rfl ?_
  refine r_nil ?_
  refine ⟨by kernel_rfl, ?_⟩
  refine i_then ?_
  refine t_seq ?_
  refine t_region ?_
  refine r_field_ptr rfl rfl rfl rfl rfl (by decide) ?_
  refine r_load_ptr rfl rfl (by decide) rfl rfl rfl ?_
  refine r_field_pp rfl rfl rfl rfl rfl (by decide) ?_
  refine r_load_pp rfl rfl rfl rfl ?_
  refine r_copyRc (E := BRowE) (ys := b.rows) rfl rfl rfl (by decide) rfl rfl rfl rfl (by simp) (by simp) ?_
  refine r_nil ?_
  refine i_then ?_
  refine t_seq ?_
  refine t_seq ?_
  refine t_region ?_
  refine r_field_ptr rfl rfl rfl rfl rfl (by decide) ?_
  refine r_load_ptr rfl rfl (by decide) rfl rfl rfl ?_
  refine r_len_rc rfl rfl rfl ?_
  refine mvI rfl ?_
  refine r_nil ?_
  refine i_then ?_
  refine t_block ?_
  refine t_loop (fun (k : {k : Nat // k ≤ b.rows.length}) => live [(1, Ty.pp (bokTys b)), (2, Ty.ptr 3 0), (3, Ty.ptr 4 0), (29, Ty.rc 22 b.rows.length (some (b.rows.length + 1))), (30, Ty.int .i64 b.rows.length), (31, Ty.int .i64 (k.1 : Nat))] [(3, Cont.cells 27 [Ty.ex (.slice none 0 0), Ty.int .i64 0, Ty.ex (.slice none 0 0)]), (4, Cont.cells 27 [Ty.sl I64 b.form.widths, Ty.int .i64 b.form.lines, Ty.rc 22 b.rows.length (some (b.rows.length + 1))]), (22, Cont.rcv BRowE 66 b.rows (some (b.rows.length + 1)))]) (fun k => b.rows.length - k.1) (⟨0, Nat.zero_le _⟩) ?_ fun k => ?_
  · (refine Ent.mk' ?_ ?_ <;> (repeat' (first | exact allSub_zero | exact allTags_nil | refine allSub_succ' ?_ (Ty.sub_any _) | refine allSub_succ' ?_ (Ty.sub_refl _) | refine allTags_cons rfl (Cont.sub_refl _) ?_ | refine allTags_cons rfl ?_ ?_)))
    all_goals exact Cont.sub_rcv (rep_drop' (by simp))
  ·
    refine t_seq ?_
    refine t_region ?_
    refine r_bin rfl rfl rfl ?_
    refine r_nil ?_
    refine i_then ?_
    refine t_seq ?_
    refine t_cond_dec rfl (fun hc1 => ?_) (fun hc1 => ?_)
    ·
      refine t_skip ?_
      refine i_then ?_
      refine t_seq ?_
      refine t_block ?_
      refine t_seq ?_
      refine t_region ?_
      refine mvI rfl ?_
      refine r_index_rc rfl rfl rfl rfl rfl (by omega) ?_
      refine r_load_rcE (E := BRowE) (tg := 22) k.1 rfl rfl rfl (by decide) rfl rfl rfl (by omega) ?_
      refine r_alloc rfl (by exact List.cons_ne_nil _ _) rfl ?_
      refine asI rfl ?_
      refine r_storeN rfl rfl (by decide) rfl rfl rfl rfl rfl rfl ?_
      refine r_nil ?_
      refine i_then ?_
      have hnk := hn _ (nth_mem (xs := b.rows) (k := k.1) (by omega))
      refine t_draw mixed rfl ?_
      refine r_field_ptr rfl rfl rfl rfl rfl (by decide) ?_
      refine r_load_ptr rfl rfl (by decide) rfl rfl rfl ?_
      refine mvI rfl ?_
      refine r_field_ptr rfl rfl rfl rfl rfl (by decide) ?_
      refine r_load_ptr rfl rfl (by decide) rfl rfl rfl ?_
      refine r_call (c_Clone_int _ (by exact hnk)) rfl rfl rfl rfl rfl ?_
      refine r_index_rc rfl rfl rfl rfl rfl (by omega) ?_
      refine r_field_ptr rfl rfl rfl rfl rfl (by decide) ?_
      refine r_store_rc (E := BRowE) (tg := 22) (i := k.1) (o := 0) (z := ⟨(nth b.rows k.1).nums, (nth b.rows k.1).struck⟩) rfl rfl (by decide) rfl rfl rfl rfl (by omega) (by decide) rfl rfl ?_
      refine r_nil ?_
      refine ⟨by kernel_rfl, ?_⟩
      refine i_block ?_
      refine i_then ?_
      refine t_region ?_
      refine r_add rfl rfl (by omega) (by omega) ?_
      refine mvI rfl ?_
      refine r_nil ?_
      refine i_round (⟨k.1 + 1, by omega⟩) ?_ (by show b.rows.length - (k.1 + 1) < b.rows.length - k.1; omega)
      (refine Ent.mk' ?_ ?_ <;> (repeat' (first | exact allSub_zero | exact allTags_nil | refine allSub_succ' ?_ (Ty.sub_any _) | refine allSub_succ' ?_ (Ty.sub_refl _) | refine allTags_cons rfl (Cont.sub_refl _) ?_ | refine allTags_cons rfl ?_ ?_)))
      all_goals skip
      all_goals exact Cont.sub_rcv set_same
    ·
      refine t_exit ?_
      refine i_then_exit ?_
      refine i_then_exit ?_
      refine i_block_exit rfl ?_
      refine i_then ?_
      refine t_seq ?_
      refine t_unownCellC (D := 4) (Tb := 27) (tg := 22) (E := BRowE) [Ty.sl I64 b.form.widths, Ty.int .i64 b.form.lines] (by decide) rfl rfl rfl ?_
      refine t_pubC (tg := 22) [] [(4, Cont.cells 27 (bokTys b))] (by decide) rfl trivial ⟨pubC_cells rfl rfl ⟨pubTy_same rfl, pubTy_same rfl, pubTy_row, trivial⟩, trivial⟩ ?_
      refine t_region ?_
      refine r_load_ptrN rfl rfl (by decide) rfl rfl (by exact Nat.le_of_ble_eq_true rfl) ?_
      refine r_storeN rfl rfl (by decide) rfl rfl rfl rfl rfl rfl ?_
      refine r_nil ?_
      refine i_then ?_
      refine t_ret ?_
      refine i_rcell rfl rfl rfl rfl (by decide) rfl rfl rfl ?_
      exact ret_refl rfl rfl
set_option maxRecDepth 100000 in
theorem k_book (f : BForm) (p : Rdr) (h : p.read.length ≤ 13) (hw : f.widths.length ≤ 1000) (hn : ∀ r ∈ p.read, r.nums.length ≤ 1000) : CtrG Tryz.prog 86 [1000] [(1000, Cont.cells 177 (rdrT f p 1001))] [Ty.ptr 1000 0] [] (bokT ⟨f, p.read⟩) := by
  refine fnG_intro Tryz.func86 rfl (by decide) Tryz.ntmps86 (by exact Nat.le_of_ble_eq_true rfl) fun w0 M0 => ?_
  refine t_seq ?_
  refine t_region ?_
  refine r_alloc rfl (by exact List.cons_ne_nil _ _) rfl ?_
  refine r_nil ?_
  refine i_then ?_
  refine t_seq ?_
  refine t_pubC (tg := 1001) [] [(1000, Cont.cells 177 [Ty.sl I64 f.widths, Ty.int .i64 f.lines, Ty.int .i64 p.rows, Ty.int .i64 p.page, Ty.bool p.begun, Ty.bool p.closed, Ty.int .i64 p.column, Ty.int .i64 p.offset, Ty.int .i64 p.number, Ty.bool p.digits, Ty.sl BRowE p.read, Ty.str (bs p.must)])] (by decide) rfl trivial ⟨pubC_cells rfl rfl ⟨pubTy_same rfl, pubTy_same rfl, pubTy_same rfl, pubTy_same rfl, pubTy_same rfl, pubTy_same rfl, pubTy_same rfl, pubTy_same rfl, pubTy_same rfl, pubTy_same rfl, pubTy_row, pubTy_same rfl, trivial⟩, trivial⟩ ?_
  refine t_draw mixed rfl ?_
  refine mvO rfl ?_
  refine r_nilCheck_ptr rfl ?_
  refine r_field_ptr rfl rfl rfl rfl rfl (by decide) ?_
  refine r_load_ptrN rfl rfl (by decide) rfl rfl (by exact Nat.le_of_ble_eq_true rfl) ?_
  refine mvO rfl ?_
  refine r_nilCheck_ptr rfl ?_
  refine r_field_ptr rfl rfl rfl rfl rfl (by decide) ?_
  refine r_load_ptr rfl rfl (by decide) rfl rfl rfl ?_
  refine r_build rfl rfl (by exact List.cons_ne_nil _ _) rfl (by repeat (first | exact (Parts.nil : Parts _ _ [] _) | (show Parts _ _ ((_, _) :: _) _; apply Parts.one; (· exact (rfl : _ = Ty.sl _ _)); (· exact rfl)) | (show Parts _ _ ((_, _) :: _) _; apply Parts.agg; (· exact (rfl : _ = Ty.agg _))))) (by exact (rfl : _ = some [_, _, _])) ?_
  refine r_call (c_own ⟨f, p.read⟩ h hw hn) rfl rfl rfl rfl rfl ?_
  refine r_storeN rfl rfl (by decide) rfl rfl rfl rfl rfl rfl ?_
  refine r_nil ?_
  refine ⟨by kernel_rfl, ?_⟩
  refine i_then ?_
  refine t_ret ?_
  refine g_rcell [1000] rfl rfl rfl rfl (by decide) rfl rfl rfl (by decide) (by repeat (exact rc_nil)) ?_
  all_goals exact rg_cv (cv_pub rfl rfl)
end Go.Proofs.YtjjndkenddigiaaGreatDoor

namespace Go.Proofs.YtjjndkenddigiaaGreatDoor
open Go Go.T
def rdK (f : BForm) (text : Byt) (k : Nat) : Rdr := (text.take k).foldl (nextR f) Rdr.new
def AccK (f : BForm) (text : Byt) (k : Nat) : Prop := ∀ j, j < k → nth text j ∈ canR f (rdK f text j)
def runN (f : BForm) (text : Byt) : Nat := (runR f Rdr.new text).1
def runP (f : BForm) (text : Byt) : Rdr := (runR f Rdr.new text).2
theorem rdK_succ {f : BForm} {text : Byt} {k : Nat} (h : k < text.length) : rdK f text (k + 1) = nextR f (rdK f text k) (nth text k) := by
  unfold rdK; rw [take_nth h, List.foldl_append]; rfl
theorem accK_succ {f : BForm} {text : Byt} {k : Nat} (h : AccK f text k) (h2 : nth text k ∈ canR f (rdK f text k)) : AccK f text (k + 1) := by
  intro j hj
  by_cases e : j = k
  · subst e; exact h2
  · exact h j (by omega)
theorem rdK_ok {f : BForm} {text : Byt} (hf : FormOk f) : ∀ {k : Nat}, k ≤ text.length → AccK f text k → RdrOk f (rdK f text k)
  | 0, _, _ => new_ok hf
  | k + 1, hk, h => by
    rw [rdK_succ (by omega)]
    exact next_ok (rdK_ok hf (by omega) fun j hj => h j (by omega)) (h k (by omega))
theorem run_gen {f : BForm} : ∀ (t : Byt) (p : Rdr) (k : Nat), k ≤ t.length → (∀ j, j < k → nth t j ∈ canR f ((t.take j).foldl (nextR f) p)) → (k = t.length ∨ nth t k ∉ canR f ((t.take k).foldl (nextR f) p)) → runR f p t = (k, (t.take k).foldl (nextR f) p)
  | [], p, k, hk, _, _ => by
    have : k = 0 := by simpa using hk
    subst this; rfl
  | c :: t, p, 0, _, _, h2 => by
    rcases h2 with h | h
    · cases h
    · have h : c ∉ canR f p := h
      show (match stepR f p c with | none => (0, p) | some q => _) = (0, p)
      rw [show stepR f p c = none from if_neg h]
  | c :: t, p, k + 1, hk, h1, h2 => by
    have h0 : c ∈ canR f p := h1 0 (by omega)
    show (match stepR f p c with | none => (0, p) | some q => ((runR f q t).1 + 1, (runR f q t).2)) = (k + 1, _)
    rw [show stepR f p c = some (nextR f p c) from if_pos h0]
    have := run_gen t (nextR f p c) k (by simpa using hk) (fun j hj => h1 (j + 1) (by omega)) (h2.imp (fun h => by simpa using h) (fun h => h))
    dsimp only
    rw [this]; rfl
theorem run_end {f : BForm} {text : Byt} {k : Nat} (hk : k ≤ text.length) (h : AccK f text k) (he : ¬ (k : Int) < (text.length : Int)) : runN f text = k ∧ runP f text = rdK f text k := by
  have := run_gen text Rdr.new k hk h (.inl (by omega))
  unfold runN runP; rw [this]; exact ⟨rfl, rfl⟩
theorem run_stop {f : BForm} {text : Byt} {k : Nat} (hk : k ≤ text.length) (h : AccK f text k) (he : ¬ nth text k ∈ canR f (rdK f text k)) : runN f text = k ∧ runP f text = rdK f text k := by
  have := run_gen text Rdr.new k hk h (.inr he)
  unfold runN runP; rw [this]; exact ⟨rfl, rfl⟩
theorem run_ok {f : BForm} {text : Byt} (hf : FormOk f) : ∀ (t : Byt) (p : Rdr), RdrOk f p → RdrOk f (runR f p t).2
  | [], p, h => h
  | c :: t, p, h => by
    show RdrOk f (match stepR f p c with | none => (0, p) | some q => ((runR f q t).1 + 1, (runR f q t).2)).2
    unfold stepR
    by_cases hc : c ∈ canR f p
    · rw [if_pos hc]; exact run_ok (text := text) hf t _ (next_ok h hc)
    · rw [if_neg hc]; exact h
theorem runP_ok {f : BForm} {text : Byt} (hf : FormOk f) : RdrOk f (runP f text) := run_ok (text := text) hf text _ (new_ok hf)
def Book.zero : Book := ⟨⟨[], 0⟩, []⟩
def parV (f : BForm) (text : Byt) : Book × Int × Int :=
  if frmY f ≠ 0 then (Book.zero, 0, frmY f) else if text.length > 65536 then (Book.zero, 0, 10)
  else if runN f text < text.length ∨ wholeR (runP f text) = false then (Book.zero, runN f text, 11) else (⟨f, (runP f text).read⟩, runN f text, 0)
theorem RdrOk.num_len {f : BForm} {p : Rdr} (ho : RdrOk f p) : ∀ r ∈ p.read, r.nums.length ≤ 1000 := by
  intro r hr
  obtain ⟨k, hk, rfl⟩ := List.getElem_of_mem hr
  have hn : nth p.read k = p.read[k] := by simp [nth, hk]
  have h2 := ho.form.n2
  have h0 := ho.r0
  rw [← hn]
  by_cases e : (k : Int) < p.rows
  · have := (ho.done k e).len; omega
  · have hfew := ho.few
    cases hb : p.begun with
    | false => rw [if_neg (ng hb)] at hfew; omega
    | true =>
      rw [if_pos hb] at hfew
      obtain ⟨h1, _, _, _, _, _, h7, _⟩ := ho.beg hb
      rw [show p.rows.toNat = k by omega] at h7
      omega
end Go.Proofs.YtjjndkenddigiaaGreatDoor

namespace Go.Proofs.YtjjndkenddigiaaGreatDoor
open Go Go.T
set_option maxHeartbeats 1000000
def parT (f : BForm) (text : Byt) : Ty := Ty.tup [bokT (parV f text).1, Ty.int .i64 (parV f text).2.1, Ty.int .i64 (parV f text).2.2]
theorem par_1 {f : BForm} {text : Byt} (h : frmY f ≠ 0) : parV f text = (Book.zero, 0, frmY f) := if_pos h
theorem par_2 {f : BForm} {text : Byt} (h : ¬ frmY f ≠ 0) (h2 : (text.length : Int) > 65536) : parV f text = (Book.zero, 0, 10) := by unfold parV; rw [if_neg h, if_pos (by omega)]
theorem par_3 {f : BForm} {text : Byt} (h : ¬ frmY f ≠ 0) (h2 : ¬ (text.length : Int) > 65536) (h3 : (decide ((runN f text : Int) < (text.length : Int)) || !wholeR (runP f text)) = true) : parV f text = (Book.zero, (runN f text : Int), 11) := by
  unfold parV; rw [if_neg h, if_neg (by omega), if_pos (by simpa [Int.ofNat_lt] using h3)]
theorem par_4 {f : BForm} {text : Byt} (h : ¬ frmY f ≠ 0) (h2 : ¬ (text.length : Int) > 65536) (h3 : (decide ((runN f text : Int) < (text.length : Int)) || !wholeR (runP f text)) = false) : parV f text = (⟨f, (runP f text).read⟩, (runN f text : Int), 0) := by
  unfold parV; rw [if_neg h, if_neg (by omega), if_neg (by simpa [Int.ofNat_lt] using h3)]
theorem rd_0 {f : BForm} {text : Byt} : rdK f text 0 = Rdr.new := rfl
theorem rd_s {f : BForm} {text : Byt} {k : Nat} (h : k < text.length) (h2 : nth text k ∈ canR f (rdK f text k)) : stepQ f (rdK f text k) (nth text k) = rdK f text (k + 1) := by rw [rdK_succ h, stepQ_yes h2]
theorem zero_bok : (Ty.agg [Ty.ex (.slice none 0 0), Ty.int .i64 0, Ty.ex (.slice none 0 0)]).Sub (bokT Book.zero) := Ty.sub_agg' ⟨Ty.nil_sl, Ty.sub_refl _, Ty.nil_sl, trivial⟩
attribute [local irreducible] canR nextR stepQ runP runN rdK wholeR parV
attribute [local irreducible] dInt dBool dSl dPp dPtr dAgg dTup dClo dAny dEx dStr dGd dCells dVec dVs dRow dOp nth Tri Into TOps Ctr bodyPost Exit.then Exit.inBlock Code.wp Code.wpIn dPa dArr dMp dMap CtrG keepPost iterPost bodyPostM roundQ
set_option maxRecDepth 100000 in
theorem c_Parse (f : BForm) (text : Byt) (hl : f.widths.length ≤ 1000000) : Ctr Tryz.prog 63 [frmT f, Ty.str (bs text)] (parT f text) := by
  refine fn_intro Tryz.func63 rfl (by decide) Tryz.ntmps63 (by exact Nat.le_of_ble_eq_true rfl) fun w0 M0 => ?_
  refine t_seq ?_
  refine t_region ?_
  refine r_box_agg rfl ?_
  refine r_alloc rfl (by exact List.cons_ne_nil _ _) rfl ?_
  refine asI rfl ?_
  refine asI rfl ?_
  refine r_nil ?_
  refine i_then ?_
  refine t_scope ?_
  refine t_seq ?_
  refine t_seq ?_
  refine t_region ?_
  refine r_load_ppN rfl rfl rfl (by exact Nat.le_of_ble_eq_true rfl) ?_
  refine r_call (c_CheckForm _) rfl rfl rfl rfl rfl ?_
  refine asI rfl ?_
  refine r_nil ?_
  refine i_then ?_
  refine t_seq ?_
  refine t_region ?_
  refine mvI rfl ?_
  refine r_bin rfl rfl rfl ?_
  refine r_nil ?_
  refine i_then ?_
  refine t_cond_ndec rfl (fun hc1 => ?_) (fun hc1 => ?_)
  ·
    refine t_seq ?_
    refine t_region ?_
    refine r_build rfl rfl (by exact List.cons_ne_nil _ _) rfl (by repeat (exact (Parts.nil : Parts _ _ [] _))) (by exact (rfl : _ = some [_, _, _])) ?_
    refine mvI rfl ?_
    refine r_storeN rfl rfl (by decide) rfl rfl rfl rfl rfl rfl ?_
    refine asI rfl ?_
    refine asI rfl ?_
    refine r_nil ?_
    refine i_then ?_
    refine t_ret ?_
    refine i_then_ret ?_
    refine i_scope_ret ?_
    refine i_rcell3 rfl rfl rfl rfl rfl rfl (by decide) rfl rfl rfl ?_ ?_ ?_
    all_goals skip
    all_goals (rw [par_1 hc1]; first | exact ret_sub rfl rfl zero_bok | exact ret_refl rfl rfl)
  ·
    refine t_skip ?_
    refine i_then ?_
    refine t_seq ?_
    refine t_seq ?_
    refine t_region ?_
    refine mvS' rfl ?_
    refine r_lenS rfl rfl rfl ?_
    refine r_bin rfl rfl rfl ?_
    refine r_nil ?_
    refine i_then ?_
    refine t_cond_dec rfl (fun hc2 => ?_) (fun hc2 => ?_)
    ·
      refine t_seq ?_
      refine t_region ?_
      refine r_build rfl rfl (by exact List.cons_ne_nil _ _) rfl (by repeat (exact (Parts.nil : Parts _ _ [] _))) (by exact (rfl : _ = some [_, _, _])) ?_
      refine r_storeN rfl rfl (by decide) rfl rfl rfl rfl rfl rfl ?_
      refine asI rfl ?_
      refine asI rfl ?_
      refine r_nil ?_
      refine i_then ?_
      refine t_ret ?_
      refine i_then_ret ?_
      refine i_scope_ret ?_
      refine i_rcell3 rfl rfl rfl rfl rfl rfl (by decide) rfl rfl rfl ?_ ?_ ?_
      all_goals skip
      all_goals (rw [par_2 (fun h => h hc1) hc2]; first | exact ret_sub rfl rfl zero_bok | exact ret_refl rfl rfl)
    ·
      refine t_skip ?_
      refine i_then ?_
      refine t_seq ?_
      have hf : FormOk f := frmY_zero.1 (by omega)
      refine t_region ?_
      refine r_load_ppN rfl rfl rfl (by exact Nat.le_of_ble_eq_true rfl) ?_
      refine r_callG [(22, 6), (23, 5)] [22, 23] [(22, Cont.cells 177 (rdrT f Rdr.new 23))] (k_opened f) rfl rfl (by repeat (first | exact cv_nil | refine cv_cons ?_ ?_ | exact cv_pub rfl rfl)) pre_nil (post_cons (a := 22) (b := 6) (by exact List.mem_cons_self) rfl (cc_rdr (by exact List.mem_cons_self) (List.mem_cons_of_mem _ List.mem_cons_self) rfl) post_nil) (cv_ptr (by exact List.mem_cons_self)) ?_
      refine asO rfl ?_
      refine r_nil ?_
      refine i_then ?_
      refine t_seq ?_
      refine t_region ?_
      refine asI rfl ?_
      refine r_nil ?_
      refine i_then ?_
      refine t_seq ?_
      refine t_label ?_
      refine i_then ?_
      refine t_join (J := live [(1, Ty.str (bs text)), (2, Ty.pp (frmTys f)), (4, Ty.ptr 5 0), (8, Ty.ptr 22 0), (9, Ty.int .i64 (runN f text : Nat))] [(5, Cont.cells 27 [Ty.ex (.slice none 0 0), Ty.int .i64 0, Ty.ex (.slice none 0 0)]), (22, Cont.cells 177 (rdrT f (runP f text) 23))]) ?_ ?_
      ·
        refine t_block ?_
        refine t_loop (fun (k : {k : Nat // k ≤ text.length ∧ AccK f text k}) => live [(1, Ty.str (bs text)), (2, Ty.pp (frmTys f)), (4, Ty.ptr 5 0), (8, Ty.ptr 22 0), (9, Ty.int .i64 (k.1 : Nat))] [(5, Cont.cells 27 [Ty.ex (.slice none 0 0), Ty.int .i64 0, Ty.ex (.slice none 0 0)]), (22, Cont.cells 177 (rdrT f (rdK f text k.1) 23))]) (fun k => text.length - k.1) (⟨0, Nat.zero_le _, fun j hj => absurd hj (Nat.not_lt_zero _)⟩) ?_ fun k => ?_
        · (refine Ent.mk' ?_ ?_ <;> (repeat' (first | exact allSub_zero | exact allTags_nil | exact subs_nil | refine allSub_succ' ?_ (Ty.sub_any _) | refine allSub_succ' ?_ (Ty.sub_refl _) | refine allTags_cons rfl (Cont.sub_refl _) ?_ | refine allTags_cons rfl (Cont.sub_subs ?_) ?_ | refine subs_cons ?_ (Ty.sub_refl _) | refine subs_cons ?_ ?_)))
          all_goals (rw [show rdK f text _ = Rdr.new from rd_0]; exact Ty.sub_refl _)
        ·
          have hk := k.2.1
          have hok := rdK_ok (text := text) hf hk k.2.2
          refine t_seq ?_
          refine t_seq ?_
          refine t_region ?_
          refine mvI rfl ?_
          refine mvS' rfl ?_
          refine r_lenS rfl rfl rfl ?_
          refine r_bin rfl rfl rfl ?_
          refine r_nil ?_
          refine i_then ?_
          refine t_cond_dec rfl (fun hc3 => ?_) (fun hc3 => ?_)
          ·
            refine t_skip ?_
            refine i_then ?_
            refine t_seq ?_
            refine t_block ?_
            refine t_seq ?_
            have hlt : k.1 < text.length := by omega
            refine t_region ?_
            refine mvO rfl ?_
            refine mvS' rfl ?_
            refine mvI rfl ?_
            refine r_idxS (i := k.1) rfl rfl rfl rfl hlt ?_
            refine r_callG [(22, 1000), (23, 1001)] [23] [(22, Cont.cells 177 (rdrT f (stepQ f (rdK f text k.1) (nth text k.1)) 23))] (k_step f _ hok (nth text k.1)) rfl rfl (by repeat (first | exact cv_nil | refine cv_cons ?_ ?_ | exact cv_ptr List.mem_cons_self | exact cv_pub rfl rfl)) (pre_cons (a := 22) (b := 1000) (by exact List.mem_cons_self) rfl (cc_rdr (by exact List.mem_cons_self) (List.mem_cons_of_mem _ List.mem_cons_self) rfl) pre_nil) (post_cons (a := 22) (b := 1000) (by exact List.mem_cons_self) rfl (cc_rdr (by exact List.mem_cons_self) (List.mem_cons_of_mem _ List.mem_cons_self) rfl) post_nil) (cv_pub rfl rfl) ?_
            refine r_not rfl ?_
            refine r_nil ?_
            refine i_then ?_
            refine t_cond_ndec rfl (fun hc4 => ?_) (fun hc4 => ?_)
            ·
              refine t_exit ?_
              refine i_block_exit' rfl ?_
              refine i_then_exit ?_
              refine i_then_exit ?_
              refine i_block_exit rfl ?_
              refine i_join ?_
              (refine Ent.mk' ?_ ?_ <;> (repeat' (first | exact allSub_zero | exact allTags_nil | exact subs_nil | refine allSub_succ' ?_ (Ty.sub_any _) | refine allSub_succ' ?_ (Ty.sub_refl _) | refine allTags_cons rfl (Cont.sub_refl _) ?_ | refine allTags_cons rfl (Cont.sub_subs ?_) ?_ | refine subs_cons ?_ (Ty.sub_refl _) | refine subs_cons ?_ ?_ | refine allSub_succ' ?_ ?_)))
              all_goals first | (rw [(run_stop hk k.2.2 hc4).1]; exact Ty.sub_refl _) | (rw [(run_stop hk k.2.2 hc4).2, stepQ_no hc4]; exact Ty.sub_refl _)
            ·
              refine t_skip ?_
              refine i_block ?_
              refine i_then ?_
              refine t_region ?_
              refine mvI rfl ?_
              refine r_add rfl rfl (by omega) (by omega) ?_
              refine asI rfl ?_
              refine r_nil ?_
              refine i_round (⟨k.1 + 1, by omega, accK_succ k.2.2 hc4⟩) ?_ (by show text.length - (k.1 + 1) < text.length - k.1; omega)
              (refine Ent.mk' ?_ ?_ <;> (repeat' (first | exact allSub_zero | exact allTags_nil | exact subs_nil | refine allSub_succ' ?_ (Ty.sub_any _) | refine allSub_succ' ?_ (Ty.sub_refl _) | refine allTags_cons rfl (Cont.sub_refl _) ?_ | refine allTags_cons rfl (Cont.sub_subs ?_) ?_ | refine subs_cons ?_ (Ty.sub_refl _) | refine subs_cons ?_ ?_)))
              all_goals skip
              all_goals (rw [rd_s hlt hc4]; exact Ty.sub_refl _)
          ·
            refine t_exit ?_
            refine i_then_exit ?_
            refine i_then_exit ?_
            refine i_block_exit rfl ?_
            refine i_join ?_
            (refine Ent.mk' ?_ ?_ <;> (repeat' (first | exact allSub_zero | exact allTags_nil | exact subs_nil | refine allSub_succ' ?_ (Ty.sub_any _) | refine allSub_succ' ?_ (Ty.sub_refl _) | refine allTags_cons rfl (Cont.sub_refl _) ?_ | refine allTags_cons rfl (Cont.sub_subs ?_) ?_ | refine subs_cons ?_ (Ty.sub_refl _) | refine subs_cons ?_ ?_ | refine allSub_succ' ?_ ?_)))
            all_goals first | (rw [(run_end hk k.2.2 hc3).1]; exact Ty.sub_refl _) | (rw [(run_end hk k.2.2 hc3).2]; exact Ty.sub_refl _)
      ·
        refine t_seq ?_
        refine t_seq ?_
        have hokp := runP_ok (text := text) hf
        refine t_region ?_
        refine mvI rfl ?_
        refine mvS' rfl ?_
        refine r_lenS rfl rfl rfl ?_
        refine r_bin rfl rfl rfl ?_
        refine mvB rfl ?_
        cases hsp : (decide ((runN f text : Int) < (text.length : Int)))
        ·
          (refine r_on rfl rfl rfl (by apply opT_of; (refine mvO rfl ?_); refine r_nil ?_; exact rfl) ?_)
          (refine r_on rfl rfl rfl (by apply opT_of; (refine r_callG [(22, 1000), (23, 1001)] [] [(22, Cont.cells 177 (rdrT f (runP f text) 23))] (k_whole f _) rfl rfl (by repeat (first | exact cv_nil | refine cv_cons ?_ ?_ | exact cv_ptr List.mem_cons_self)) (pre_cons (a := 22) (b := 1000) (by exact List.mem_cons_self) rfl (cc_rdr (by exact List.mem_cons_self) (List.mem_cons_of_mem _ List.mem_cons_self) rfl) pre_nil) (post_cons (a := 22) (b := 1000) (by exact List.mem_cons_self) rfl (cc_rdr (by exact List.mem_cons_self) (List.mem_cons_of_mem _ List.mem_cons_self) rfl) post_nil) (cv_pub rfl rfl) ?_); refine r_nil ?_; exact rfl) ?_)
          (refine r_on rfl rfl rfl (by apply opT_of; (refine r_not rfl ?_); refine r_nil ?_; exact rfl) ?_)
          refine r_pkF rfl rfl ?_
          refine r_nil ?_
          refine i_then ?_
          refine t_cond rfl (fun hc5 => ?_) (fun hc5 => ?_)
          ·
            refine t_seq ?_
            refine t_region ?_
            refine r_build rfl rfl (by exact List.cons_ne_nil _ _) rfl (by repeat (exact (Parts.nil : Parts _ _ [] _))) (by exact (rfl : _ = some [_, _, _])) ?_
            refine mvI rfl ?_
            refine r_storeN rfl rfl (by decide) rfl rfl rfl rfl rfl rfl ?_
            refine asI rfl ?_
            refine asI rfl ?_
            refine r_nil ?_
            refine i_then ?_
            refine t_ret ?_
            refine i_then_ret ?_
            refine i_scope_ret ?_
            refine i_rcell3 rfl rfl rfl rfl rfl rfl (by decide) rfl rfl rfl ?_ ?_ ?_
            all_goals skip
            all_goals (rw [par_3 (fun h => h hc1) hc2 (by rw [hsp, hc5]; rfl)]; first | exact ret_sub rfl rfl zero_bok | exact ret_refl rfl rfl)
          ·
            refine t_skip ?_
            refine i_then ?_
            refine t_seq ?_
            refine t_region ?_
            refine mvO rfl ?_
            refine r_callG [(22, 1000), (23, 1001)] [23] [] (k_book f (runP f text) hokp.len (by have := hf.n2; omega) hokp.num_len) rfl rfl (by repeat (first | exact cv_nil | refine cv_cons ?_ ?_ | exact cv_ptr List.mem_cons_self)) (pre_cons (a := 22) (b := 1000) (by exact List.mem_cons_self) rfl (cc_rdr (by exact List.mem_cons_self) (List.mem_cons_of_mem _ List.mem_cons_self) rfl) pre_nil) post_nil (cv_pub rfl rfl) ?_
            refine mvI rfl ?_
            refine r_storeN rfl rfl (by decide) rfl rfl rfl rfl rfl rfl ?_
            refine asI rfl ?_
            refine asI rfl ?_
            refine r_nil ?_
            refine i_then ?_
            refine t_ret ?_
            refine i_scope_ret ?_
            refine i_rcell3 rfl rfl rfl rfl rfl rfl (by decide) rfl rfl rfl ?_ ?_ ?_
            all_goals skip
            all_goals (rw [par_4 (fun h => h hc1) hc2 (by rw [hsp, hc5]; rfl)]; exact ret_refl rfl rfl)
        ·
          refine r_off rfl rfl rfl rfl ?_
          refine r_off rfl rfl rfl rfl ?_
          refine r_off rfl rfl rfl rfl ?_
          refine r_pkT rfl rfl ?_
          refine r_nil ?_
          refine i_then ?_
          refine t_cond rfl (fun hc6 => ?_) (fun hc6 => ?_)
          ·
            refine t_seq ?_
            refine t_region ?_
            refine r_build rfl rfl (by exact List.cons_ne_nil _ _) rfl (by repeat (exact (Parts.nil : Parts _ _ [] _))) (by exact (rfl : _ = some [_, _, _])) ?_
            refine mvI rfl ?_
            refine r_storeN rfl rfl (by decide) rfl rfl rfl rfl rfl rfl ?_
            refine asI rfl ?_
            refine asI rfl ?_
            refine r_nil ?_
            refine i_then ?_
            refine t_ret ?_
            refine i_then_ret ?_
            refine i_scope_ret ?_
            refine i_rcell3 rfl rfl rfl rfl rfl rfl (by decide) rfl rfl rfl ?_ ?_ ?_
            all_goals skip
            all_goals (rw [par_3 (fun h => h hc1) hc2 (by rw [hsp]; rfl)]; first | exact ret_sub rfl rfl zero_bok | exact ret_refl rfl rfl)
          ·
            refine t_skip ?_
            refine i_then ?_
            refine t_seq ?_
            refine t_region ?_
            refine mvO rfl ?_
            refine r_callG [(22, 1000), (23, 1001)] [23] [] (k_book f (runP f text) hokp.len (by have := hf.n2; omega) hokp.num_len) rfl rfl (by repeat (first | exact cv_nil | refine cv_cons ?_ ?_ | exact cv_ptr List.mem_cons_self)) (pre_cons (a := 22) (b := 1000) (by exact List.mem_cons_self) rfl (cc_rdr (by exact List.mem_cons_self) (List.mem_cons_of_mem _ List.mem_cons_self) rfl) pre_nil) post_nil (cv_pub rfl rfl) ?_
            refine mvI rfl ?_
            refine r_storeN rfl rfl (by decide) rfl rfl rfl rfl rfl rfl ?_
            refine asI rfl ?_
            refine asI rfl ?_
            refine r_nil ?_
            refine i_then ?_
            refine t_ret ?_
            refine i_scope_ret ?_
            refine i_rcell3 rfl rfl rfl rfl rfl rfl (by decide) rfl rfl rfl ?_ ?_ ?_
            all_goals skip
            all_goals (exfalso; contradiction)
end Go.Proofs.YtjjndkenddigiaaGreatDoor

namespace Go.Proofs.YtjjndkenddigiaaGreatDoor
open Go Go.T
def tornN (l : Byt) : Nat := l.count 63
theorem torn_one {a : Byt} {p : Nat} (h : p < a.length) : tornN (a.take (p + 1)) = tornN (a.take p) + (if nth a p = 63 then 1 else 0) := by
  unfold tornN
  rw [take_nth h, List.count_append, List.count_singleton]
  by_cases e : nth a p = 63 <;> simp [e]
theorem torn_no {a : Byt} {p : Nat} (h : p < a.length) (h2 : 128 ≤ (nth a p).toNat) : tornN (a.take (p + 1)) = tornN (a.take p) := by
  rw [torn_one h, if_neg]
  · rfl
  · intro e; rw [e] at h2; exact absurd h2 (by decide)
theorem torn_step {a : Byt} {p : Nat} (h : p < a.length) : runeNext a p ≤ a.length ∧ p < runeNext a p ∧ (tornN (a.take (runeNext a p)) : Int) = tornN (a.take p) + (if runeAt a p = 63 then 1 else 0) := by
  unfold runeNext runeAt
  rw [if_pos h]
  have hs : (bs a).size = a.length := bs_size a
  have key : ∀ (r w : Nat), Utf8.decode (bs a) p = (r, w) → p + w ≤ a.length → 0 < w → (tornN (a.take (p + w)) : Int) = tornN (a.take p) + (if ((r : Nat) : Int) = 63 then 1 else 0) → p + (Utf8.decode (bs a) p).2 ≤ a.length ∧ p < p + (Utf8.decode (bs a) p).2 ∧ (tornN (a.take (p + (Utf8.decode (bs a) p).2)) : Int) = tornN (a.take p) + (if (((Utf8.decode (bs a) p).1 : Nat) : Int) = 63 then 1 else 0) := by
    intro r w e h1 h2 h3
    rw [e]; exact ⟨h1, by omega, h3⟩
  by_cases hlow : (nth a p).toNat < 128
  · refine key _ _ (decode_low h hlow) (by omega) (by omega) ?_
    rw [torn_one h]
    by_cases e : nth a p = 63
    · rw [if_pos e, e]; simp
    · rw [if_neg e, if_neg]
      · simp
      · intro h3; exact e (UInt8.toNat_inj.1 (by show _ = 63; omega))
  · have hno := torn_no h (by omega)
    have err : ∀ (r w : Nat), Utf8.decode (bs a) p = (r, w) → w = 1 → r = Utf8.runeError → _ := fun r w e hw hr => key r w e (by omega) (by omega) (by
      subst hw; subst hr
      rw [hno, if_neg (by decide)]; simp)
    have c1 : p + 1 < a.length → 128 ≤ (nth a (p + 1)).toNat → tornN (a.take (p + 2)) = tornN (a.take p) := fun h1 h2 => by rw [show p + 2 = (p + 1) + 1 from rfl, torn_no h1 h2, hno]
    have c2 : p + 1 < a.length → 128 ≤ (nth a (p + 1)).toNat → p + 2 < a.length → 128 ≤ (nth a (p + 2)).toNat → tornN (a.take (p + 3)) = tornN (a.take p) := fun h1 h2 h3 h4 => by rw [show p + 3 = (p + 2) + 1 from rfl, torn_no h3 h4, c1 h1 h2]
    have c3 : p + 1 < a.length → 128 ≤ (nth a (p + 1)).toNat → p + 2 < a.length → 128 ≤ (nth a (p + 2)).toNat → p + 3 < a.length → 128 ≤ (nth a (p + 3)).toNat → tornN (a.take (p + 4)) = tornN (a.take p) := fun h1 h2 h3 h4 h5 h6 => by rw [show p + 4 = (p + 3) + 1 from rfl, torn_no h5 h6, c2 h1 h2 h3 h4]
    have cont : ∀ k, (decide (p + k < (bs a).size) && ((bs a).get! (p + k)).toNat / 64 == 2) = true → p + k < a.length ∧ 128 ≤ (nth a (p + k)).toNat := by
      intro k hk
      simp only [Bool.and_eq_true, decide_eq_true_eq, beq_iff_eq, hs] at hk
      obtain ⟨h1, h2⟩ := hk
      rw [get_bs h1] at h2
      exact ⟨h1, by omega⟩
    generalize hd : Utf8.decode (bs a) p = d
    have hd' := hd
    unfold Utf8.decode at hd
    simp only [Nat.add_zero, get_bs h] at hd
    rw [if_neg hlow] at hd
    rw [← hd']
    split at hd
    · rename_i hb
      simp only [Bool.and_eq_true] at hb
      obtain ⟨q1, q2⟩ := cont 1 (by simpa using hb.2)
      split at hd
      · rename_i hc
        refine key _ _ (hd'.trans hd.symm) (by omega) (by omega) ?_
        rw [c1 q1 q2, if_neg (by simp at hc; omega)]; simp
      · exact err _ _ (hd'.trans hd.symm) rfl rfl
    · split at hd
      · rename_i hb
        simp only [Bool.and_eq_true] at hb
        obtain ⟨q1, q2⟩ := cont 1 (by simpa using hb.1.2)
        obtain ⟨q3, q4⟩ := cont 2 (by simpa using hb.2)
        split at hd
        · rename_i hc
          refine key _ _ (hd'.trans hd.symm) (by omega) (by omega) ?_
          rw [c2 q1 q2 q3 q4, if_neg (by simp at hc; omega)]; simp
        · exact err _ _ (hd'.trans hd.symm) rfl rfl
      · split at hd
        · rename_i hb
          simp only [Bool.and_eq_true] at hb
          obtain ⟨q1, q2⟩ := cont 1 (by simpa using hb.1.1.2)
          obtain ⟨q3, q4⟩ := cont 2 (by simpa using hb.1.2)
          obtain ⟨q5, q6⟩ := cont 3 (by simpa using hb.2)
          split at hd
          · rename_i hc
            refine key _ _ (hd'.trans hd.symm) (by omega) (by omega) ?_
            rw [c3 q1 q2 q3 q4 q5 q6, if_neg (by simp at hc; omega)]; simp
          · exact err _ _ (hd'.trans hd.symm) rfl rfl
        · exact err _ _ (hd'.trans hd.symm) rfl rfl
end Go.Proofs.YtjjndkenddigiaaGreatDoor

namespace Go.Proofs.YtjjndkenddigiaaGreatDoor
open Go Go.T
set_option maxHeartbeats 1000000
theorem u8_i {x y : UInt8} : ((x.toNat : Int) = (y.toNat : Int)) ↔ x = y := ⟨fun h => UInt8.toNat_inj.1 (by omega), fun h => by rw [h]⟩
def tornE (f : BForm) (text : Byt) : Int := if frmY f ≠ 0 then frmY f else if (text.length : Int) > 65536 then 10 else if (tornN text : Int) > 4 then 9 else 0
theorem torn_end {text : Byt} {p : Nat} (h : p ≤ text.length) (h2 : ¬ p < text.length) : tornN (text.take p) = tornN text := by rw [List.take_of_length_le (by omega)]
theorem tornN_le (l : Byt) : tornN l ≤ l.length := List.count_le_length
theorem torn_0 {text : Byt} : (0 : Int) = (tornN (text.take 0) : Nat) := by simp [tornN]
theorem te_1 {f : BForm} {text : Byt} (h : ¬ frmY f = 0) : frmY f = tornE f text := (if_pos h).symm
theorem te_2 {f : BForm} {text : Byt} (h : frmY f = 0) (h2 : 65536 < (text.length : Int)) : 10 = tornE f text := by unfold tornE; rw [if_neg (fun e => e h), if_pos h2]
theorem te_3 {f : BForm} {text : Byt} {p : Nat} (h : frmY f = 0) (h2 : ¬ 65536 < (text.length : Int)) (hp : p ≤ text.length) (h3 : ¬ p < text.length) (h4 : 4 < (tornN (text.take p) : Int)) : 9 = tornE f text := by
  rw [torn_end hp h3] at h4; unfold tornE; rw [if_neg (fun e => e h), if_neg h2, if_pos h4]
theorem te_4 {f : BForm} {text : Byt} {p : Nat} (h : frmY f = 0) (h2 : ¬ 65536 < (text.length : Int)) (hp : p ≤ text.length) (h3 : ¬ p < text.length) (h4 : ¬ 4 < (tornN (text.take p) : Int)) : 0 = tornE f text := by
  rw [torn_end hp h3] at h4; unfold tornE; rw [if_neg (fun e => e h), if_neg h2, if_neg h4]
attribute [local irreducible] tornN runeNext runeAt tornE
attribute [local irreducible] dInt dBool dSl dPp dPtr dAgg dTup dClo dAny dEx dStr dGd dCells dVec dVs dRow dOp nth Tri Into TOps Ctr bodyPost Exit.then Exit.inBlock Code.wp Code.wpIn dPa dArr dMp dMap CtrG keepPost iterPost bodyPostM roundQ
set_option maxRecDepth 100000 in
theorem c_torn (f : BForm) (text : Byt) : Ctr Tryz.prog 81 [frmT f, Ty.str (bs text)] (Ty.int .i64 (tornE f text)) := by
  refine fn_intro Tryz.func81 rfl (by decide) Tryz.ntmps81 (by exact Nat.le_of_ble_eq_true rfl) fun w0 M0 => ?_
  refine t_seq ?_
  refine t_region ?_
  refine r_box_agg rfl ?_
  refine asI rfl ?_
  refine r_nil ?_
  refine i_then ?_
  refine t_seq ?_
  refine t_seq ?_
  refine t_region ?_
  refine r_load_ppN rfl rfl rfl (by exact Nat.le_of_ble_eq_true rfl) ?_
  refine r_call (c_CheckForm _) rfl rfl rfl rfl rfl ?_
  refine asI rfl ?_
  refine r_nil ?_
  refine i_then ?_
  refine t_seq ?_
  refine t_region ?_
  refine mvI rfl ?_
  refine r_bin rfl rfl rfl ?_
  refine r_nil ?_
  refine i_then ?_
  refine t_cond_ndec rfl (fun hc1 => ?_) (fun hc1 => ?_)
  ·
    refine t_seq ?_
    refine t_region ?_
    refine mvI rfl ?_
    refine asI rfl ?_
    refine r_nil ?_
    refine i_then ?_
    refine t_ret ?_
    refine i_then_ret ?_
    refine i_rp1 rfl rfl ?_
    all_goals skip
    exact ret_eq rfl rfl (congrArg (Ty.int .i64) (te_1 hc1))
  ·
    refine t_skip ?_
    refine i_then ?_
    refine t_seq ?_
    refine t_seq ?_
    refine t_region ?_
    refine mvS' rfl ?_
    refine r_lenS rfl rfl rfl ?_
    refine r_bin rfl rfl rfl ?_
    refine r_nil ?_
    refine i_then ?_
    refine t_cond_dec rfl (fun hc2 => ?_) (fun hc2 => ?_)
    ·
      refine t_seq ?_
      refine t_region ?_
      refine asI rfl ?_
      refine r_nil ?_
      refine i_then ?_
      refine t_ret ?_
      refine i_then_ret ?_
      refine i_rp1 rfl rfl ?_
      all_goals skip
      exact ret_eq rfl rfl (congrArg (Ty.int .i64) (te_2 hc1 hc2))
    ·
      refine t_skip ?_
      refine i_then ?_
      refine t_seq ?_
      refine t_region ?_
      refine asI rfl ?_
      refine r_nil ?_
      refine i_then ?_
      refine t_seq ?_
      refine t_seq ?_
      refine t_region ?_
      refine mvS' rfl ?_
      refine r_rangeS rfl rfl rfl rfl ?_
      refine r_nil ?_
      refine i_then ?_
      refine t_block ?_
      refine t_loop (fun (p : {p : Nat // p ≤ text.length}) => live [(1, Ty.str (bs text)), (2, Ty.pp (frmTys f)), (6, Ty.int .i64 (tornN (text.take p.1) : Nat)), (18, Ty.ptr 19 0)] [(19, Cont.si text p.1)]) (fun p => text.length - p.1) (⟨0, Nat.zero_le _⟩) ?_ fun p => ?_
      · (refine Ent.mk' ?_ ?_ <;> (repeat' (first | exact allSub_zero | exact allTags_nil | refine allSub_succ' ?_ (Ty.sub_any _) | refine allSub_succ' ?_ (Ty.sub_refl _) | refine allTags_cons rfl (Cont.sub_refl _) ?_ | refine allSub_succ' ?_ ?_)))
        all_goals exact Ty.sub_int torn_0
      ·
        have hp0 := p.2
        have hle := tornN_le (text.take p.1)
        have hl2 : (text.take p.1).length = p.1 := List.length_take_of_le hp0
        refine t_seq ?_
        refine t_region ?_
        refine r_nextS rfl rfl (by decide) ?_
        refine r_extN0 rfl ?_
        refine r_nil ?_
        refine i_then ?_
        refine t_seq ?_
        refine t_cond_dec rfl (fun hc3 => ?_) (fun hc3 => ?_)
        ·
          refine t_skip ?_
          refine i_then ?_
          refine t_block ?_
          refine t_seq ?_
          have hp : p.1 < text.length := by omega
          have hst := torn_step hp
          refine t_region ?_
          refine r_extN2 rfl (by omega) ?_
          refine asI rfl ?_
          refine r_nil ?_
          refine i_then ?_
          refine t_seq ?_
          refine t_region ?_
          refine mvI rfl ?_
          refine r_bin rfl rfl rfl ?_
          refine r_nil ?_
          refine i_then ?_
          refine t_cond_dec rfl (fun hc4 => ?_) (fun hc4 => ?_)
          ·
            refine t_region ?_
            refine mvI rfl ?_
            refine r_add rfl rfl (by omega) (by omega) ?_
            refine asI rfl ?_
            refine r_nil ?_
            refine i_block ?_
            refine i_round (⟨runeNext text p.1, hst.1⟩) ?_ (by show text.length - runeNext text p.1 < text.length - p.1; omega)
            (refine Ent.mk' ?_ ?_ <;> (repeat' (first | exact allSub_zero | exact allTags_nil | refine allSub_succ' ?_ (Ty.sub_any _) | refine allSub_succ' ?_ (Ty.sub_refl _) | refine allTags_cons rfl (Cont.sub_refl _) ?_ | refine allSub_succ' ?_ ?_)))
            all_goals skip
            all_goals exact Ty.sub_int (by rw [hst.2.2, if_pos hc4])
          ·
            refine t_skip ?_
            refine i_block ?_
            refine i_round (⟨runeNext text p.1, hst.1⟩) ?_ (by show text.length - runeNext text p.1 < text.length - p.1; omega)
            (refine Ent.mk' ?_ ?_ <;> (repeat' (first | exact allSub_zero | exact allTags_nil | refine allSub_succ' ?_ (Ty.sub_any _) | refine allSub_succ' ?_ (Ty.sub_refl _) | refine allTags_cons rfl (Cont.sub_refl _) ?_ | refine allSub_succ' ?_ ?_)))
            all_goals skip
            all_goals exact Ty.sub_int (by rw [hst.2.2, if_neg hc4, Int.add_zero])
        ·
          refine t_exit ?_
          refine i_then_exit ?_
          refine i_then_exit ?_
          refine i_block_exit rfl ?_
          refine i_then ?_
          refine t_seq ?_
          refine t_seq ?_
          refine t_region ?_
          refine mvI rfl ?_
          refine r_bin rfl rfl rfl ?_
          refine r_nil ?_
          refine i_then ?_
          refine t_cond_dec rfl (fun hc5 => ?_) (fun hc5 => ?_)
          ·
            refine t_seq ?_
            refine t_region ?_
            refine asI rfl ?_
            refine r_nil ?_
            refine i_then ?_
            refine t_ret ?_
            refine i_then_ret ?_
            refine i_rp1 rfl rfl ?_
            all_goals skip
            exact ret_eq rfl rfl (congrArg (Ty.int .i64) (te_3 hc1 hc2 p.2 hc3 hc5))
          ·
            refine t_skip ?_
            refine i_then ?_
            refine t_seq ?_
            refine t_region ?_
            refine asI rfl ?_
            refine r_nil ?_
            refine i_then ?_
            refine t_ret ?_
            refine i_rp1 rfl rfl ?_
            all_goals skip
            exact ret_eq rfl rfl (congrArg (Ty.int .i64) (te_4 hc1 hc2 p.2 hc3 hc5))
end Go.Proofs.YtjjndkenddigiaaGreatDoor

namespace Go.T
open Go Go.RowKit
def dBv (el : Nat) (l : Byt) (w : World) (M : Tags) (t : Nat) : Prop :=
  ∃ b cs lo hi, M b = some t ∧ w.heap[b]? = some (.cells cs el (lo, hi)) ∧ l.length ≤ lo ∧ ∀ j (hj : j < l.length), cs[j]? = some (.int .u8 (l[j].toNat : Int))
def Cont.bv (el : Nat) (l : Byt) : Cont :=
  { den := dBv el l, mono := fun le _ _ hs hk ⟨b, cs, lo, hi, h1, h2, h3⟩ => let ⟨h4, h5⟩ := le.own b _ h1 hk; ⟨b, cs, lo, hi, h4, (h5 hs).trans h2, h3⟩ }
theorem Cont.sub_bv {el : Nat} {l m : Byt} (h : l = m) : (Cont.bv el l).Sub (Cont.bv el m) := h ▸ Cont.sub_refl _
section
variable {P : Program} {fr : Fr} {ops : Array Oper} {A : As} {rest : List Oper} {K : As → List (As × Fx) → Prop} {d : Nat} {t ty' : TypeId} {p : String} {e : Array Edge} {x y : Operand} {a : Byt} {ti te ts : TI} {el tg : Nat} [T : Tab P]
theorem r_convSB {src : TypeId} (hx : A.op fr x = .str (bs a)) (hS : T.tab[src]? = some ts) (hks : ts.k = .string) (hT : T.tab[ty']? = some ti) (hk : ti.k = .slice el) (hu : P.underlying el = some (.int .u8)) (hl : a.length ≤ maxLen) (hp : fr.pass.contains (d + 1) = false)
    (h : TOps P fr ops rest (A.after { d := some d, ty := .vs (d + 1) a.length, K := [d + 1], sets := [(d + 1, .bv el a)], rs := opR x }) fun A' l' => K A' ((A, { d := some d, ty := .vs (d + 1) a.length, K := [d + 1], sets := [(d + 1, .bv el a)], rs := opR x }) :: l')) :
    TOps P fr ops (⟨some d, .convert src ty' x, t, p, e, none⟩ :: rest) A K := by
  refine ⟨_, opT_mem rfl rfl (by simp) (by simp) (by simp at hp ⊢; exact hp) fun ac w M wf hr _ => ?_, h⟩
  have hdx := op_den (x := x) (fun _ h => h) hr
  rw [hx] at hdx
  have ex : ac.eval x = .string (bs a) := hdx
  obtain ⟨_, D, _, hD, hkd, _⟩ := tab_info hT
  rw [hk] at hkd
  cases D <;> simp only [TK.of, reduceCtorEq, TK.slice.injEq] at hkd
  subst hkd
  rename_i el _
  have hrun := run_bytes_of_string (P := P) w src ty' el (bs a) (tab_string hS hks) hD hu
  have wf' : Wf w.drew M := ⟨wf.lt, wf.inj, wf.amb⟩
  obtain ⟨h1, h2, h3⟩ := le_alloc wf' (.cells (bytesRow (bs a) (grownCap w (bs a).size 0 el)) el ((bytesRow (bs a) (grownCap w (bs a).size 0 el)).size, (bytesRow (bs a) (grownCap w (bs a).size 0 el)).size + 1)) (d + 1)
  have hsz : (bs a).size = a.length := bs_size a
  refine ⟨.slice (some ⟨w.heap.size, 0, none⟩) (bs a).size (grownCap w (bs a).size 0 el), _, by simp only [execOp, ex, Sem.run_bind, hrun]; rfl, _, h1, ⟨h2.size, h2.os, h2.tape, h2.out, h2.pub, h2.own⟩, .inr ⟨w.heap.size, grownCap w (bs a).size 0 el, h3, by rw [hsz], by rw [hsz]; exact grownCap_ge _ _ _ _, by rw [hsz]; exact grownCap_le_maxLen _ _ _ _ hl⟩, ?_⟩
  intro z hz
  simp only [List.mem_singleton] at hz
  subst hz
  refine ⟨_, _, _, _, h3, alloc_new _ _, ?_, fun j hj => ?_⟩
  · simp only [bytesRow, Array.size_append, Array.size_map]
    have : (bs a).data.size = a.length := hsz
    omega
  · have hj' : j < (bs a).data.size := by have : (bs a).data.size = a.length := hsz; omega
    rw [bytesRow_at (bs a) _ j hj']
    rfl
theorem setCell_mark {w : World} {b off : Nat} {cs : Array Value} {Tb lo hi : Nat} (h : w.heap[b]? = some (.cells cs Tb (lo, hi))) (v : Value) : w.setCell ⟨b, off, none⟩ v = { w with heap := w.heap.setIfInBounds b (.cells (cs.setIfInBounds off v) Tb (lo, hi)) } := by
  unfold World.setCell
  congr 1
  apply Array.ext_getElem?
  intro i
  rw [Array.getElem?_modify]
  by_cases e : b = i
  · subst e
    obtain ⟨hlt, hv⟩ := Array.getElem?_eq_some_iff.1 h
    simp [hv, hlt]
  · simp [e, Array.getElem?_setIfInBounds_ne e]
theorem store_leM {w : World} {M : Tags} {tg b lo hi : Nat} {cs' : Array Value} {Tb : TypeId} (wf : Wf w M) (hb : M b = some tg) (w' : World) (hw : w' = { w with heap := w.heap.setIfInBounds b (.cells cs' Tb (lo, hi)) }) :
    Wf w' M ∧ Le (· ∈ [tg]) (· ∈ ([] : List Nat)) w M w' M ∧ w'.heap[b]? = some (.cells cs' Tb (lo, hi)) := by
  have hlt := wf.lt b tg hb
  subst hw
  refine ⟨⟨fun b' t h => by simpa using wf.lt b' t h, wf.inj, wf.amb.of fun b' hb' hm => ⟨hm, by simp [Array.getElem?_setIfInBounds_ne (show b ≠ b' from fun e => by rw [← e, hb] at hm; cases hm)]⟩⟩, ⟨by simp, rfl, rfl, rfl, fun b' hb' hm => ⟨hm, ?_⟩, fun b' t hm _ => ⟨hm, fun hs => ?_⟩⟩, by simp [hlt]⟩
  · have : b ≠ b' := fun e => by rw [← e, hb] at hm; cases hm
    simp [Array.getElem?_setIfInBounds_ne this]
  · have : b ≠ b' := fun e => hs (by rw [← e, hb] at hm; injection hm with hm; simp [hm])
    simp [Array.getElem?_setIfInBounds_ne this]
theorem r_store_bv {Tb i off : Nat} {z : UInt8} {n : Int} (hx : A.op fr x = .ptr tg off) (ho : off = i) (hc : A.tag tg = some (.bv Tb a)) (h1 : Tag1 tg) (hT : T.tab[ty']? = some ti) (hsz : ti.size = 1) (hy : A.op fr y = .int .u8 n) (hn : n = (z.toNat : Int)) (hi : i < a.length)
    (h : TOps P fr ops rest (A.after { d := none, S := [tg], sets := [(tg, .bv Tb (a.set i z))], rs := opR x ++ opR y, rt := [tg] }) fun A' l'' => K A' ((A, { d := none, S := [tg], sets := [(tg, .bv Tb (a.set i z))], rs := opR x ++ opR y, rt := [tg] }) :: l'')) :
    TOps P fr ops (⟨none, .store ty' x y, t, p, e, none⟩ :: rest) A K := by
  subst ho
  subst hn
  refine ⟨_, opT_unit rfl rfl rfl (by simp) (by simpa using h1.1) (by simp) fun ac w M wf hr ht => ?_, h⟩
  obtain ⟨hdx, hdy⟩ := op2 hr
  rw [hx] at hdx; rw [hy] at hdy
  obtain ⟨b, hb, ex⟩ := hdx
  have ey : ac.eval y = .int .u8 (z.toNat : Int) := hdy
  obtain ⟨b', cs, lo, hi', hb', hh, hlo, hcs⟩ := ht _ (tag_mem hc) (by simp)
  obtain ⟨u, rfl⟩ : ∃ u, tg = u + 1 := ⟨tg - 1, by have := h1.1; omega⟩
  have := wf.inj b b' u h1.2 hb hb'
  subst this
  have hcell : w.cell? ⟨b, off, none⟩ = some (.int .u8 (a[off].toNat : Int)) := by simp [World.cell?, hh, hcs off hi]
  have hfz : w.frozen? ⟨b, off, none⟩ = false := by simp [World.frozen?, hh]; omega
  obtain ⟨h1', h2', h3'⟩ := store_leM wf hb _ (setCell_mark hh (off := off) (ac.eval y))
  refine ⟨w.setCell ⟨b, off, none⟩ (ac.eval y), ?_, M, h1', h2', trivial, ?_⟩
  · have hst := run_store P w ⟨b, off, none⟩ (ac.eval y) .plain (by rw [ey]; rfl)
    rw [hcell] at hst
    simp only [hfz] at hst
    rw [ey] at hst ⊢
    simp [execOp, Instr.storeAt, Instr.sureAddr, ex, ey, storeVar, Value.cells, run_sizeOf' hT, hsz, storeCells, hst, Addr.add]
  · intro z' hz'
    simp only [List.mem_singleton] at hz'
    subst hz'
    refine ⟨b, _, lo, hi', hb, h3', by rw [List.length_set]; exact hlo, fun j hj => ?_⟩
    rw [List.length_set] at hj
    have hsz2 : off < cs.size := (Array.getElem?_eq_some_iff.1 (hcs off hi)).1
    by_cases e : off = j
    · subst e
      rw [Array.getElem?_setIfInBounds_self_of_lt hsz2, ey]; simp
    · rw [Array.getElem?_setIfInBounds_ne e, hcs j hj, List.getElem_set_ne e]
theorem r_convBS {src n : Nat} (hx : A.op fr x = .vs tg n) (hc : A.tag tg = some (.bv el a)) (h1 : Tag1 tg) (hn : n = a.length) (hS : T.tab[src]? = some ts) (hks : ts.k = .slice el) (hT : T.tab[ty']? = some ti) (hk : ti.k = .string) (hu : P.underlying el = some (.int .u8))
    (h : TOps P fr ops rest (A.set d (.str (bs a))) fun A' l' => K A' ((A, { d := some d, ty := .str (bs a), rs := opR x, rt := [tg] }) :: l')) : TOps P fr ops (⟨some d, .convert src ty' x, t, p, e, none⟩ :: rest) A K :=
  tops_pure (opT_pure rfl rfl fun ac w M wf hr ht => by
    subst hn
    have hdx := op_den (x := x) (fun _ h => h) hr
    rw [hx] at hdx
    obtain ⟨b', cs, lo, hi', hb', hh, hlo, hcs⟩ := ht _ (tag_mem hc) (by simp)
    obtain ⟨_, D, _, hD, hkd, _⟩ := tab_info hS
    rw [hks] at hkd
    cases D <;> simp only [TK.of, reduceCtorEq, TK.slice.injEq] at hkd
    subst hkd
    rcases hdx with ⟨h0, ex⟩ | ⟨b, c, hb, ex, _, _⟩
    · have ha : a = [] := List.length_eq_zero_iff.1 h0
      subst ha
      refine ⟨.string (bs []), ?_, rfl⟩
      simp only [execOp, ex, Sem.run_bind, run_convert_bytes_string w src ty' _ none 0 0 hD hu (tab_string hT hk)]
      rfl
    · obtain ⟨u, rfl⟩ : ∃ u, tg = u + 1 := ⟨tg - 1, by have := h1.1; omega⟩
      have := wf.inj b b' u h1.2 hb hb'
      subst this
      have hrun := run_convert_bytes_back (P := P) w src ty' _ ⟨b, 0, none⟩ c a hD hu (tab_string hT hk) (fun j hj => by rw [Addr.add_lit]; simp [World.cell?, hh, hcs j hj])
      exact ⟨.string (bs a), by simp only [execOp, ex, Sem.run_bind, hrun]; rfl, rfl⟩) h
omit T in
theorem r_lenMp {mt kt et : TypeId} {κ β : Type} [DecidableEq κ] {enc : κ → Value} {V : VT β} {kvs : List (κ × β)} (hx : A.op fr x = .mp tg) (hc : A.tag tg = some (.mp enc V kvs)) (h1 : Tag1 tg) (hm : mapOf P mt = some (kt, et))
    (h : TOps P fr ops rest (A.set d (.int .i64 kvs.length)) fun A' l' => K A' ((A, { d := some d, ty := .int .i64 kvs.length, rs := opR x, rt := [tg] }) :: l')) :
    TOps P fr ops (⟨some d, .call ⟨.builtin .len, #[x], #[mt]⟩, t, p, e, none⟩ :: rest) A K :=
  tops_pure (opT_pure rfl rfl fun a w M wf hrd htg => by
    obtain ⟨b, ex, _, es, clock, h3, h4, _⟩ := mp_at hx hc h1 wf (fun _ h => h) hrd htg
    have hl : es.size = kvs.length := by have := congrArg List.length h4; simpa using this
    exact ⟨.int .i64 kvs.length, by simp [execOp, resolve, invoke, builtin, ex, Builtin.len_, run_underlying (mapOf_und hm), getObj, Sem.run, h3, goInt, hl], rfl⟩) h
end
end Go.T

namespace Go.Proofs.YtjjndkenddigiaaGreatDoor
open Go Go.T
def tearB (text : Byt) (l : List Int) : Byt := (List.range text.length).map fun k => if ((k : Nat) : Int) ∈ l then 63 else nth text k
def offL (text : Byt) (l : List Int) : Bool := l.any fun i => offB i 0 ((text.length : Int) - 1)
def tearV (text : Byt) (l : List Int) : Byt × Int := if (text.length : Int) > 65536 then ([], 10) else if offL text l = true then ([], 1) else if l.Nodup then (tearB text l, 0) else ([], 5)
theorem tearB_len (text : Byt) (l : List Int) : (tearB text l).length = text.length := by simp [tearB]
theorem nth_getElem {α : Type} [Inhabited α] {l : List α} {k : Nat} (h : k < l.length) : l[k] = nth l k := by simp [nth, h]
theorem tearB_at {text : Byt} {l : List Int} {k : Nat} (h : k < text.length) : nth (tearB text l) k = if ((k : Nat) : Int) ∈ l then 63 else nth text k := by
  rw [← nth_getElem (by rw [tearB_len]; exact h)]; simp [tearB]
def DupK (l : List Int) (k : Nat) : Prop := ∀ j, j < k → ∀ m, m < j → nth l j ≠ nth l m
theorem dup_yes {l : List Int} {j m : Nat} (hj : j < l.length) (hm : m < j) (h : nth l j = nth l m) : ¬ l.Nodup := by
  intro hn
  have hm' : m < l.length := by omega
  rw [← nth_getElem hj, ← nth_getElem hm'] at h
  exact List.pairwise_iff_getElem.1 hn m j hm' hj hm h.symm
theorem dup_no {l : List Int} (h : DupK l l.length) : l.Nodup := by
  refine List.pairwise_iff_getElem.2 fun i j hi hj hij he => ?_
  rw [nth_getElem, nth_getElem] at he
  exact h j hj i hij he.symm
theorem te1 {text : Byt} {l : List Int} (h : 65536 < (text.length : Int)) : tearV text l = ([], 10) := if_pos h
theorem te2 {text : Byt} {l : List Int} (h : ¬ 65536 < (text.length : Int)) (h2 : offL text l = true) : tearV text l = ([], 1) := by unfold tearV; rw [if_neg h, if_pos h2]
theorem te3 {text : Byt} {l : List Int} (h : ¬ 65536 < (text.length : Int)) (h2 : offL text l = false) (h3 : ¬ l.Nodup) : tearV text l = ([], 5) := by unfold tearV; rw [if_neg h, if_neg (by rw [h2]; decide), if_neg h3]
theorem te4 {text : Byt} {l : List Int} (h : ¬ 65536 < (text.length : Int)) (h2 : offL text l = false) (h3 : l.Nodup) : tearV text l = (tearB text l, 0) := by unfold tearV; rw [if_neg h, if_neg (by rw [h2]; decide), if_pos h3]
end Go.Proofs.YtjjndkenddigiaaGreatDoor

namespace Go.Proofs.YtjjndkenddigiaaGreatDoor
open Go Go.T
def metK (l : List Int) (k : Nat) : List (Int × Bool) := (l.take k).foldl (fun m i => mput m i true) []
theorem metK_succ {l : List Int} {k : Nat} (h : k < l.length) : metK l (k + 1) = mput (metK l k) (nth l k) true := by unfold metK; rw [take_nth h, List.foldl_append]; rfl
theorem mput_len {m : List (Int × Bool)} {i : Int} : (mput m i true).length = m.length + (if mget m i = none then 1 else 0) := by
  induction m with
  | nil => rfl
  | cons x m ih =>
    simp only [mput, mget]
    split
    · simp
    · simp only [List.length_cons, ih]; split <;> omega
theorem met_get {l : List Int} : ∀ {k : Nat}, k ≤ l.length → ∀ i, mget (metK l k) i = if i ∈ l.take k then some true else none
  | 0, _, i => by simp [metK, mget]
  | k + 1, h, i => by
    rw [metK_succ (by omega), mget_mput, met_get (by omega), take_nth (by omega)]
    by_cases e : nth l k = i
    · subst e; simp
    · rw [if_neg e]
      have : i ≠ nth l k := fun h => e h.symm
      simp [this]
theorem met_getD {l : List Int} {k : Nat} (h : k ≤ l.length) (i : Int) : (mget (metK l k) i).getD false = decide (i ∈ l.take k) := by
  rw [met_get h]; split <;> simp [*]
theorem mem_take_nth {l : List Int} {k : Nat} (h : k ≤ l.length) {i : Int} : i ∈ l.take k ↔ ∃ m, m < k ∧ nth l m = i := by
  constructor
  · intro hm
    obtain ⟨m, hm2, rfl⟩ := List.getElem_of_mem hm
    rw [List.length_take] at hm2
    exact ⟨m, by omega, by rw [List.getElem_take, nth_getElem]⟩
  · rintro ⟨m, hm, rfl⟩
    rw [← nth_getElem (show m < l.length by omega)]
    exact List.mem_take_iff_getElem.2 ⟨m, by omega, rfl⟩
theorem met_len {l : List Int} : ∀ {k : Nat}, k ≤ l.length → (metK l k).length ≤ k ∧ ((metK l k).length = k ↔ DupK l k)
  | 0, _ => ⟨Nat.le_refl _, fun _ j hj => absurd hj (Nat.not_lt_zero _), fun _ => rfl⟩
  | k + 1, h => by
    obtain ⟨h1, h2⟩ := met_len (l := l) (k := k) (by omega)
    rw [metK_succ (by omega), mput_len, met_get (by omega)]
    by_cases e : nth l k ∈ l.take k
    · rw [if_pos e]
      obtain ⟨m, hm, he⟩ := (mem_take_nth (by omega)).1 e
      refine ⟨by simp; omega, fun hc => by simp at hc; omega, fun hd => absurd he.symm (hd k (by omega) m hm)⟩
    · rw [if_neg e, if_pos rfl]
      refine ⟨by omega, fun hc j hj m hm => ?_, fun hd => ?_⟩
      · have hdk := h2.1 (by omega)
        by_cases ej : j = k
        · subst ej; exact fun he => e ((mem_take_nth (by omega)).2 ⟨m, hm, he.symm⟩)
        · exact hdk j (by omega) m hm
      · have := h2.2 fun j hj m hm => hd j (by omega) m hm
        omega
theorem met_dup {l : List Int} {k : Nat} (hk : k ≤ l.length) (h0 : ¬ (k : Int) < l.length) (h : ((metK l k).length : Int) < l.length) : ¬ l.Nodup := by
  have e : k = l.length := by omega
  subst e
  intro hn
  have : DupK l l.length := fun j hj m hm he => dup_yes hj hm he hn
  have := (met_len (Nat.le_refl _)).2.2 this
  omega
theorem met_nod {l : List Int} {k : Nat} (hk : k ≤ l.length) (h0 : ¬ (k : Int) < l.length) (h : ¬ ((metK l k).length : Int) < l.length) : l.Nodup := by
  have e : k = l.length := by omega
  subst e
  obtain ⟨h1, h2⟩ := met_len (l := l) (Nat.le_refl _)
  exact dup_no (h2.1 (by omega))
theorem all_off' {text : Byt} {l : List Int} : (l.all fun i => inB i 0 ((text.length : Int) - 1)) = !offL text l := by
  unfold offL
  induction l with
  | nil => rfl
  | cons x l ih => rw [List.all_cons, List.any_cons, Bool.not_or, ih, ← inB_off, Bool.not_not]
theorem metK_0 (l : List Int) : [] = metK l 0 := rfl
theorem met_in {l : List Int} {k : Nat} (hk : k ≤ l.length) (h0 : ¬ (k : Int) < l.length) {i : Int} (h : (mget (metK l k) i).getD false = true) : i ∈ l := by
  rw [met_getD hk, List.take_of_length_le (by omega)] at h; simpa using h
theorem met_out {l : List Int} {k : Nat} (hk : k ≤ l.length) (h0 : ¬ (k : Int) < l.length) {i : Int} (h : (mget (metK l k) i).getD false = false) : ¬ i ∈ l := by
  rw [met_getD hk, List.take_of_length_le (by omega)] at h; simpa using h
theorem off_no {text : Byt} {l : List Int} (h : (!l.all fun i => inB i 0 ((text.length : Int) - 1)) = false) : offL text l = false := by
  rw [all_off', Bool.not_not] at h; exact h
theorem off_yes {text : Byt} {l : List Int} (h : (!l.all fun i => inB i 0 ((text.length : Int) - 1)) = true) : offL text l = true := by
  rw [all_off', Bool.not_not] at h; exact h
def tearP (text : Byt) (l : List Int) (j : Nat) : Byt := (tearB text l).take j ++ text.drop j
theorem tp_0 (text : Byt) (l : List Int) : text = tearP text l 0 := by simp [tearP]
theorem tp_len {text : Byt} {l : List Int} {j : Nat} (h : j ≤ text.length) : (tearP text l j).length = text.length := by simp [tearP, tearB_len]; omega
theorem tp_end {text : Byt} {l : List Int} {j : Nat} (h : text.length ≤ j) : tearP text l j = tearB text l := by
  unfold tearP; rw [List.take_of_length_le (by rw [tearB_len]; exact h), List.drop_of_length_le h, List.append_nil]
theorem tp_yes {text : Byt} {l : List Int} {j : Nat} (h : j < text.length) (hm : ((j : Nat) : Int) ∈ l) : (tearP text l j).set j 63 = tearP text l (j + 1) := by
  unfold tearP
  have hl : ((tearB text l).take j).length = j := by rw [List.length_take, tearB_len]; omega
  rw [List.set_append_right _ _ (by omega), hl, Nat.sub_self, List.drop_eq_getElem_cons h, List.set_cons_zero, take_nth (by rw [tearB_len]; exact h), tearB_at h, if_pos hm, List.append_assoc]; rfl
theorem tp_no {text : Byt} {l : List Int} {j : Nat} (h : j < text.length) (hm : ¬ ((j : Nat) : Int) ∈ l) : tearP text l j = tearP text l (j + 1) := by
  unfold tearP
  rw [List.drop_eq_getElem_cons h, take_nth (by rw [tearB_len]; exact h), tearB_at h, if_neg hm, List.append_assoc, nth_getElem h]; rfl
end Go.Proofs.YtjjndkenddigiaaGreatDoor
