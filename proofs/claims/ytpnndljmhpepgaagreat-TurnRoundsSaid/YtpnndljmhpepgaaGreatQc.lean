/- Lemmas: the program and the reference walked, plain laws. -/
import Derived.Test.YtpnndljmhpepgaaGreatQb
namespace Go.T
open Go Go.RowKit
section
variable {P : Program} {fr : Fr} {ops : Array Oper} {A : As} {rest : List Oper} {K : As → List (As × Fx) → Prop} {d : Nat} {t ty' mt kt et : TypeId} {p : String} {e : Array Edge} [T : Tab P]
variable {κ α : Type} [DecidableEq κ] {E : El α} {Tb J tg : Nat} {q : List (κ × List α)} {k : κ} {xs ys : List α}
theorem take_put (l news : List Value) (o n m e : Nat) (he : o + n ≤ e) (hl : e + news.length ≤ l.length) : (((l.take e ++ news ++ l.drop (e + news.length)).drop o).take n) = (l.drop o).take n := by
  apply List.ext_getElem?
  intro i
  rw [List.getElem?_take, List.getElem?_take]
  split
  · rename_i hi
    rw [List.getElem?_drop, List.getElem?_drop, List.append_assoc, List.getElem?_append_left (by rw [List.length_take]; omega), List.getElem?_take, if_pos (by omega)]
  · rfl
theorem put_take (l news : List Value) (o n : Nat) (hl : o + n + news.length ≤ l.length) : (((l.take (o + n) ++ news ++ l.drop (o + n + news.length)).drop o).take (n + news.length)) = (l.drop o).take n ++ news := by
  have h1 : (l.take (o + n) ++ news ++ l.drop (o + n + news.length)).drop o = (l.drop o).take n ++ news ++ l.drop (o + n + news.length) := by
    rw [List.append_assoc, List.drop_append_of_le_length (by rw [List.length_take]; omega), List.drop_take, show o + n - o = n by omega, List.append_assoc]
  have h2 : ((l.drop o).take n ++ news).length = n + news.length := by rw [List.length_append, List.length_take, List.length_drop, Nat.min_eq_left (by omega)]
  rw [h1, List.take_left' h2]
omit [DecidableEq κ] in
theorem apart_le {w : World} {M : Tags} {vs : List Value} (hd : dens w M (q.map fun x => Ty.rowO E Tb J x.2) vs) {j : Nat} {u : Value} {g e1 : Nat} (hj : vs[j]? = some u) (hu : endOf E.size u = some (g, e1)) : M g = some J := by
  have hlen := dens_len hd
  have hlt := (List.getElem?_eq_some_iff.1 hj).1
  obtain ⟨x, hx, hdx⟩ := dens_get hd j (Ty.rowO E Tb J (q[j]'(by simpa [hlen] using hlt)).2) (by rw [List.getElem?_map, List.getElem?_eq_getElem (by simpa [hlen] using hlt)]; rfl)
  rw [hj] at hx
  injection hx with hx
  subst hx
  rcases hdx with ⟨_, e⟩ | ⟨g', off, c, cur, e, hg, _⟩
  · rw [e] at hu; simp [endOf] at hu
  · rw [e] at hu
    simp only [endOf, Option.some.injEq, Prod.mk.injEq] at hu
    rw [← hu.1]; exact hg
theorem r_appendQ {x y : Operand} {enc : κ → Value} {st el : Nat} {ti te : TI} (hx : A.op fr x = .qv E el tg J q k xs) (hy : A.op fr y = .sl E ys) (hc : A.tag tg = some (.mr enc E el J q)) (h1 : Tag1 tg) (hJ : 4096 ≤ J) (hp : fr.pass.contains J = false) (hpos : 0 < ys.length) (hT : T.tab[st]? = some ti) (hk : ti.k = .slice el) (hE : T.tab[el]? = some te) (hs : te.size = E.size) (hz : te.zero.length = te.size) (h0 : 0 < te.size)
    (hlen : (xs.length + ys.length) * te.bytes ≤ 140737488355328) (hlen' : xs.length + ys.length ≤ 9223372036854775807)
    (h : TOps P fr ops rest (A.after { d := some d, ty := .qv E el tg J q k (xs ++ ys), S := [tg, J], sets := [(tg, .mr enc E el J q)], rs := opR x ++ opR y, rt := [tg] }) fun A' l' => K A' ((A, { d := some d, ty := .qv E el tg J q k (xs ++ ys), S := [tg, J], sets := [(tg, .mr enc E el J q)], rs := opR x ++ opR y, rt := [tg] }) :: l')) :
    TOps P fr ops (⟨some d, .call ⟨.builtin .append, #[x, y], #[st, st]⟩, t, p, e, none⟩ :: rest) A K := by
  refine ⟨_, opT_mem rfl rfl (by simp) (by simp; exact ⟨h1.1, by omega⟩) (by simp) fun a w M wf hr htg => ?_, h⟩
  obtain ⟨hdx, hdy⟩ := op2 hr
  rw [hx] at hdx; rw [hy] at hdy
  obtain ⟨hrow, hown⟩ := hdx
  obtain ⟨hn, b, es, clock, hb, hhb, hkeys, hvals, hap⟩ := htg _ (tag_mem hc) (by simp)
  have ownb : ∀ (g e0 : Nat), endOf E.size (a.eval x) = some (g, e0) → ∀ (j : Nat) (u : Value) (e1 : Nat), (es.toList.map (·.val))[j]? = some u → endOf E.size u = some (g, e1) → (q[j]?).map Prod.fst = some k ∧ (roomy (a.eval x) = true → e1 ≤ e0) := fun g e0 he => by
    obtain ⟨b', es', c', g1, g2, g3⟩ := hown g e0 he
    obtain ⟨u', hu'⟩ : ∃ u, tg = u + 1 := ⟨tg - 1, by omega⟩
    have : b = b' := by
      have hb' : M b = some (u' + 1) := hu' ▸ hb
      have g1' : M b' = some (u' + 1) := hu' ▸ g1
      exact wf.inj b b' u' (by omega) hb' g1'
    subst this
    rw [hhb] at g2
    injection g2 with g2
    injection g2 with g2 _
    subst g2
    exact g3
  obtain ⟨_, D, _, hD, hkd, _⟩ := tab_info hT
  rw [hk] at hkd
  cases D <;> simp only [TK.of, reduceCtorEq, TK.slice.injEq] at hkd
  subst hkd
  rename_i el
  obtain ⟨i, _, hi, _, _, hsz, hby, hze⟩ := tab_info hE
  obtain ⟨zz, hiz, hzc⟩ : ∃ z, i.zero = some z ∧ z.cells.size = i.size := by
    cases hiz : i.zero with
    | none => rw [hiz] at hze; rw [← hze] at hz; simp at hz; omega
    | some z => rw [hiz] at hze; exact ⟨z, rfl, by simp at hze; rw [hsz, ← hz, ← hze]; simp⟩
  obtain ⟨ad, c', ey, hc1, hc2, hpp⟩ := hdy
  obtain ⟨b', off', rfl, hp'⟩ := hpp hpos
  obtain ⟨news, hn1, hn2, hn3⟩ := pub_cells hp' _ (Nat.le_refl _)
  rw [List.take_length] at hn2
  have hnl : news.length = ys.length * i.size := by rw [hn1, flat_len, hsz, hs]
  have hnews : ∀ j u, news[j]? = some u → w.cell? ((⟨b', off', none⟩ : Addr).add j) = some u := fun j u hj => by rw [Addr.add_lit]; exact hn3 j u hj
  have hones := dens_ones hn2 (flat_ones E ys)
  have hesz : E.size = i.size := by rw [hsz, hs]
  -- behind a growth
  have grown : ∀ (olds : List Value) (cap : Nat), dens w M (xs.flatMap E.tys) olds → cap < xs.length + ys.length →
      (Builtin.append_ #[st, st] t #[a.eval x, a.eval y]).run P w = .ok (.slice (some ⟨w.heap.size, 0, none⟩) (xs.length + ys.length) (grownCap w (xs.length + ys.length) cap el)) (w.drew.alloc (.cells (olds.toArray ++ news.toArray ++ Builtin.zeroCells zz.cells (grownCap w (xs.length + ys.length) cap el - (xs.length + ys.length))) el)) →
      ∃ v w', (execOp a.eval ⟨some d, .call ⟨.builtin .append, #[x, y], #[st, st]⟩, t, p, e, none⟩).run P w = .ok (.value v) w' ∧ Fx.left { d := some d, ty := .qv E el tg J q k (xs ++ ys), S := [tg, J], sets := [(tg, .mr enc E el J q)], rs := opR x ++ opR y, rt := [tg] } w M w' v := by
    intro olds cap hdo hcap hrun
    have holen : olds.length = xs.length * i.size := by rw [dens_len hdo, flat_len, hesz]
    have hge := grownCap_ge w (xs.length + ys.length) cap el
    have hcm : grownCap w (xs.length + ys.length) cap el ≤ maxLen := grownCap_le_maxLen w (xs.length + ys.length) cap el (by simp only [maxLen]; omega)
    have hsize : (w.drew.alloc (.cells (olds.toArray ++ news.toArray ++ Builtin.zeroCells zz.cells (grownCap w (xs.length + ys.length) cap el - (xs.length + ys.length))) el)).heap.size = w.heap.size + 1 := by simp
    have hold : ∀ b2, b2 < w.heap.size → (w.drew.alloc (.cells (olds.toArray ++ news.toArray ++ Builtin.zeroCells zz.cells (grownCap w (xs.length + ys.length) cap el - (xs.length + ys.length))) el)).heap[b2]? = w.heap[b2]? := fun b2 h => Below.heap_alloc w.drew _ b2 h
    have hnew : (w.drew.alloc (.cells (olds.toArray ++ news.toArray ++ Builtin.zeroCells zz.cells (grownCap w (xs.length + ys.length) cap el - (xs.length + ys.length))) el)).heap[w.heap.size]? = some (.cells (olds.toArray ++ news.toArray ++ Builtin.zeroCells zz.cells (grownCap w (xs.length + ys.length) cap el - (xs.length + ys.length))) el (0, 0)) := alloc_new w.drew _
    have hos : (w.drew.alloc (.cells (olds.toArray ++ news.toArray ++ Builtin.zeroCells zz.cells (grownCap w (xs.length + ys.length) cap el - (xs.length + ys.length))) el)).os = w.os ∧ (w.drew.alloc (.cells (olds.toArray ++ news.toArray ++ Builtin.zeroCells zz.cells (grownCap w (xs.length + ys.length) cap el - (xs.length + ys.length))) el)).tape = w.tape ∧ (w.drew.alloc (.cells (olds.toArray ++ news.toArray ++ Builtin.zeroCells zz.cells (grownCap w (xs.length + ys.length) cap el - (xs.length + ys.length))) el)).output = w.output := ⟨rfl, rfl, rfl⟩
    have hcs : (olds.toArray ++ news.toArray ++ Builtin.zeroCells zz.cells (grownCap w (xs.length + ys.length) cap el - (xs.length + ys.length))).size = grownCap w (xs.length + ys.length) cap el * i.size := by
      simp only [Array.size_append, List.size_toArray, size_zeroCells, hzc, holen, hnl, ← Nat.add_mul]
      congr 1
      omega
    have htk : ((olds.toArray ++ news.toArray ++ Builtin.zeroCells zz.cells (grownCap w (xs.length + ys.length) cap el - (xs.length + ys.length))).toList.drop 0).take ((xs ++ ys).length * E.size) = olds ++ news := by
      rw [List.drop_zero]
      simp only [Array.toList_append]
      rw [List.take_left' (by rw [List.length_append, holen, hnl, List.length_append, hesz, Nat.add_mul])]
    generalize hw' : (w.drew.alloc (.cells (olds.toArray ++ news.toArray ++ Builtin.zeroCells zz.cells (grownCap w (xs.length + ys.length) cap el - (xs.length + ys.length))) el)) = w' at *
    generalize hcu : (olds.toArray ++ news.toArray ++ Builtin.zeroCells zz.cells (grownCap w (xs.length + ys.length) cap el - (xs.length + ys.length))) = cu at *
    have le : Le (· ∈ [tg, J]) (· ∈ ([] : List Nat)) w M w' (fun b2 => if b2 = w.heap.size then some J else M b2) :=
      ⟨by omega, hos.1, hos.2.1, hos.2.2, fun b2 hb2 hm => ⟨by rw [if_neg (by omega)]; exact hm, hold b2 hb2⟩, fun b2 u hm _ => by
        have := wf.lt b2 u hm
        exact ⟨by rw [if_neg (by omega)]; exact hm, fun _ => hold b2 this⟩⟩
    have le0 : Le (· ∈ ([] : List Nat)) (· ∈ ([] : List Nat)) w M w' (fun b2 => if b2 = w.heap.size then some J else M b2) :=
      ⟨by omega, hos.1, hos.2.1, hos.2.2, fun b2 hb2 hm => ⟨by rw [if_neg (by omega)]; exact hm, hold b2 hb2⟩, fun b2 u hm _ => by
        have := wf.lt b2 u hm
        exact ⟨by rw [if_neg (by omega)]; exact hm, fun _ => hold b2 this⟩⟩
    have wf' : Wf w' (fun b2 => if b2 = w.heap.size then some J else M b2) := by
      refine ⟨fun b2 u hm => ?_, fun b2 b3 u ht1 hm hm' => ?_⟩
      · split at hm
        · omega
        · have := wf.lt b2 u hm; omega
      · split at hm
        · injection hm with hm; omega
        · split at hm'
          · injection hm' with hm'; omega
          · exact wf.inj b2 b3 u ht1 hm hm'
    have hblt := wf.lt b tg hb
    refine ⟨.slice (some ⟨w.heap.size, 0, none⟩) (xs.length + ys.length) (grownCap w (xs.length + ys.length) cap el), w', by simp [execOp, resolve, invoke, builtin, hrun], _, wf', le, ⟨.inr ⟨w.heap.size, 0, grownCap w (xs.length + ys.length) cap el, cu, by rw [List.length_append], by simp, hnew, by rw [List.length_append]; exact hge, hcm, by rw [hcs, hesz]; omega, ?_⟩, fun g e0 he => ?_⟩, fun y hy => ?_⟩
    · rw [htk, List.flatMap_append]
      exact dens_app (dens_mono le0 (by rw [E.flat_deps]; intro _ h; cases h) (by rw [E.flat_cdeps]; intro _ h; cases h) hdo) (dens_mono le0 (by rw [E.flat_deps]; intro _ h; cases h) (by rw [E.flat_cdeps]; intro _ h; cases h) hn2)
    · simp only [endOf, Option.some.injEq, Prod.mk.injEq] at he
      obtain ⟨rfl, _⟩ := he
      refine ⟨b, es, clock, (if_neg (by omega)).trans hb, (hold b hblt).trans hhb, fun j u e1 hj hju => ?_⟩
      have := wf.lt _ _ (apart_le hvals hj hju)
      omega
    · rw [List.mem_singleton.1 hy]
      refine ⟨hn, b, es, clock, (if_neg (by omega)).trans hb, (hold b hblt).trans hhb, hkeys, ?_, hap⟩
      exact dens_mono le0 (fun _ _ h => by cases h) (fun _ _ h => by cases h) hvals
  rcases hrow with ⟨hxe, ex⟩ | ⟨g, off, cap, cur, ex, hg, hh, hxc, hcm, hfit, hdx⟩
  · have hrn := run_append_nil (P := P) w st t el i zz hD hi hiz ⟨b', off', none⟩ ys.length c' news hnl hnews hpos (by omega) (by rw [hby]; have := hlen; rw [Nat.add_mul] at this; omega)
    subst hxe
    refine grown [] 0 trivial (by simpa using hpos) ?_
    rw [ex, ey]
    simpa using hrn
  · by_cases hroom : xs.length + ys.length ≤ cap
    · -- in place
      have hm : (xs.length + ys.length) * E.size ≤ cap * E.size := Nat.mul_le_mul_right _ hroom
      rw [Nat.add_mul] at hm
      have hcf : off + xs.length * i.size + news.length ≤ cur.size := by rw [hnl, ← hesz]; omega
      have hf := run_firstCells_some (P := P) w i.size ys.length ⟨b', off', none⟩ ys.length c' news hnl hnews
      have hst := run_storeCells_at (P := P) g (off + xs.length * i.size) el news 0 cur w hh (by simpa using hcf) hones
      rw [setRow_set _ hh] at hst
      simp only [Nat.add_zero] at hst
      obtain ⟨h1', h2', h3'⟩ := store_le (cs' := (cur.toList.take (off + xs.length * i.size) ++ news ++ cur.toList.drop (off + xs.length * i.size + news.length)).toArray) (Tb := el) wf hg _ rfl
      have hrun : (Builtin.append_ #[st, st] t #[a.eval x, a.eval y]).run P w = .ok (.slice (some ⟨g, off, none⟩) (xs.length + ys.length) cap) { w with heap := w.heap.setIfInBounds g (.cells (cur.toList.take (off + xs.length * i.size) ++ news ++ cur.toList.drop (off + xs.length * i.size + news.length)).toArray el (0, 0)) } := by
        rw [ex, ey]
        simp [Builtin.append_, run_underlying hD, sizeOf, typeInfo, hi, Builtin.lenOf, hroom, hf, Addr.add_lit, hst]
      have le : Le (· ∈ [tg, J]) (· ∈ ([] : List Nat)) w M { w with heap := w.heap.setIfInBounds g (.cells (cur.toList.take (off + xs.length * i.size) ++ news ++ cur.toList.drop (off + xs.length * i.size + news.length)).toArray el (0, 0)) } M :=
        h2'.weaken (fun u hu => by simp only [List.mem_singleton] at hu; subst hu; simp) (fun _ h => by cases h)
      have hgb : g ≠ b := fun e => by rw [e, hhb] at hh; cases hh
      have hroomy : roomy (a.eval x) = true := by rw [ex]; simp [roomy]; omega
      have hb' : ({ w with heap := w.heap.setIfInBounds g (.cells (cur.toList.take (off + xs.length * i.size) ++ news ++ cur.toList.drop (off + xs.length * i.size + news.length)).toArray el (0, 0)) } : World).heap[b]? = some (.map es clock) := by
        show (w.heap.setIfInBounds g _)[b]? = _
        rw [Array.getElem?_setIfInBounds_ne hgb]; exact hhb
      refine ⟨.slice (some ⟨g, off, none⟩) (xs.length + ys.length) cap, _, by simp [execOp, resolve, invoke, builtin, hrun], M, h1', le, ⟨.inr ⟨g, off, cap, _, by rw [List.length_append], hg, h3', by rw [List.length_append]; exact hroom, hcm, ?_, ?_⟩, fun g' e0 he => ?_⟩, fun y hy => ?_⟩
      · simp only [List.size_toArray, List.length_append, List.length_take, List.length_drop, Array.length_toList]
        omega
      · rw [List.length_append, Nat.add_mul, hesz, ← hnl, List.toList_toArray, put_take _ _ _ _ (by simpa using hcf), List.flatMap_append]
        refine dens_mono h2' (by rw [← List.flatMap_append, E.flat_deps]; intro _ h; cases h) (by rw [← List.flatMap_append, E.flat_cdeps]; intro _ h; cases h) (dens_app ?_ hn2)
        rw [← hesz]; exact hdx
      · simp only [endOf, Option.some.injEq, Prod.mk.injEq] at he
        obtain ⟨rfl, rfl⟩ := he
        refine ⟨b, es, clock, hb, hb', fun j u e1 hj hju => ?_⟩
        have := ownb g (off + xs.length * E.size) (by rw [ex]; rfl) j u e1 hj hju
        refine ⟨this.1, fun _ => ?_⟩
        have := this.2 hroomy
        rw [Nat.add_mul]; omega
      · rw [List.mem_singleton.1 hy]
        refine ⟨hn, b, es, clock, hb, hb', hkeys, ?_, hap⟩
        refine dens_of_get (by rw [dens_len hvals]) fun j ty hj => ?_
        obtain ⟨u, hu, hdu⟩ := dens_get hvals j ty hj
        refine ⟨u, hu, ?_⟩
        rw [List.getElem?_map] at hj
        obtain ⟨qe, _, rfl⟩ := Option.map_eq_some_iff.1 hj
        rcases hdu with h | ⟨g2, off2, c2, cur2, e2, hg2, hh2, k1, k2, k3, k4⟩
        · exact .inl h
        · by_cases hgg : g = g2
          · subst hgg
            rw [hh] at hh2
            injection hh2 with hh2
            injection hh2 with ha _
            subst ha
            have hend := (ownb g (off + xs.length * E.size) (by rw [ex]; rfl) j u _ hu (by rw [e2]; rfl)).2 hroomy
            refine .inr ⟨g, off2, c2, _, e2, hg, h3', k1, k2, ?_, ?_⟩
            · simp only [List.size_toArray, List.length_append, List.length_take, List.length_drop, Array.length_toList]
              omega
            · rw [List.toList_toArray, take_put _ _ _ _ 0 _ (by rw [← hesz]; exact hend) (by simpa using hcf)]
              exact dens_mono h2' (by rw [E.flat_deps]; intro _ h; cases h) (by rw [E.flat_cdeps]; intro _ h; cases h) k4
          · refine .inr ⟨g2, off2, c2, cur2, e2, hg2, ?_, k1, k2, k3, dens_mono h2' (by rw [E.flat_deps]; intro _ h; cases h) (by rw [E.flat_cdeps]; intro _ h; cases h) k4⟩
            show (w.heap.setIfInBounds g _)[g2]? = _
            rw [Array.getElem?_setIfInBounds_ne hgg]; exact hh2
    · have holds : ∀ j u, ((cur.toList.drop off).take (xs.length * E.size))[j]? = some u → w.cell? ((⟨g, off, none⟩ : Addr).add j) = some u := fun j u hj => by
        rw [List.getElem?_take] at hj
        split at hj
        · rw [List.getElem?_drop] at hj
          rw [Addr.add_lit]
          simpa [World.cell?, hh] using hj
        · cases hj
      have hol : ((cur.toList.drop off).take (xs.length * E.size)).length = xs.length * i.size := by rw [dens_len hdx, flat_len, hesz]
      have hrn := run_append_grow (P := P) w st t el i zz hD hi hiz ⟨g, off, none⟩ xs.length cap _ hol holds ⟨b', off', none⟩ ys.length c' news hnl hnews (by omega) (by omega) (growslice_fits (by omega) (by rw [hby]; exact hlen))
      refine grown _ cap hdx (by omega) ?_
      rw [ex, ey]
      exact hrn
omit T in
theorem r_updateR {x y z : Operand} {kty : Ty} {tz : Nat} (KK : KeyK P kt κ) (hx : A.op fr x = .mp tg) (hc : A.tag tg = some (.mr KK.enc E Tb J q)) (h1 : Tag1 tg) (hy : A.op fr y = kty) (hk : KeyAt kty (KK.enc k)) (hz : A.op fr z = .row E Tb tz xs) (hm : mapOf P mt = some (kt, et)) (hJ : 4096 ≤ J) (h2 : Tag1 tz) (hne : Nat.beq tz tg = false) (hp : fr.pass.contains tz = false)
    (h : TOps P fr ops rest (A.after { d := none, S := [tg], K := [tz], sets := [(tg, .mr KK.enc E Tb J (mput q k xs))], rs := opR x ++ (opR y ++ opR z), rt := [tg] }) fun A' l' => K A' ((A, { d := none, S := [tg], K := [tz], sets := [(tg, .mr KK.enc E Tb J (mput q k xs))], rs := opR x ++ (opR y ++ opR z), rt := [tg] }) :: l')) :
    TOps P fr ops (⟨none, .mapUpdate mt x y z, t, p, e, none⟩ :: rest) A K := by
  have hne' : tz ≠ tg := fun h => by subst h; simp at hne
  refine ⟨_, opT_unit rfl rfl rfl (by simp) (by simpa using h1.1) (by simp at hp ⊢; exact ⟨h2.1, hp⟩) fun a w M wf hrd htg => ?_, h⟩
  obtain ⟨hn, b, es, clock, e1, e2, h3, h4, h5, h6⟩ := mr_at hx hc h1 wf (fun c hc => List.mem_append_left _ hc) hrd htg
  have hyd := op_den (fun c hc => List.mem_append_right (opR x) (List.mem_append_left (opR z) hc)) hrd
  have hzd := op_den (fun c hc => List.mem_append_right (opR x) (List.mem_append_right (opR y) hc)) hrd
  rw [hy] at hyd
  rw [hz] at hzd
  obtain ⟨cs, hown, hcs, hM⟩ := hzd
  have hu := mapOf_und hm
  have hblt : b < w.heap.size := wf.lt b _ e2
  have hrow : dRowO E Tb J xs w (giveJ M tz J) (a.eval z) := by
    rcases hown.2 with ⟨ez, h0⟩ | ⟨g, cap, cur, ez, _, hh, hnc, hcap, hsz, htk⟩
    · exact .inl ⟨List.length_eq_zero_iff.1 h0, ez⟩
    · have hg : M g = some tz := hM g (by rw [ez]; rfl)
      refine .inr ⟨g, 0, cap, cur, ez, by simp [giveJ, hg], hh, hnc, hcap, by omega, ?_⟩
      rw [List.drop_zero, htk]
      exact dens_mono (giveJ_le (w := w)) (by rw [E.flat_deps]; intro _ h; cases h) (by rw [E.flat_cdeps]; intro _ h; cases h) hcs
  have hvals : dens w (giveJ M tz J) (q.map fun x => Ty.rowO E Tb J x.2) (es.toList.map (·.val)) :=
    dens_mono (giveJ_le (w := w) (tg := tz) (J := J)) (fun u hu => by rw [rows_deps.1 u hu]; simp; omega) (fun _ _ h => by cases h) h5
  have apart0 : ∀ (g e0 : Nat), endOf E.size (a.eval z) = some (g, e0) → ∀ (j : Nat) (u : Value) (e' : Nat), (es.toList.map (·.val))[j]? = some u → endOf E.size u = some (g, e') → False := fun g e0 he j u e' hj hju => by
    have k1 := apart_le h5 hj hju
    rcases hown.2 with ⟨ez, _⟩ | ⟨g', cap, cur, ez, _⟩
    · rw [ez] at he; simp [endOf] at he
    · have hg : M g' = some tz := hM g' (by rw [ez]; rfl)
      rw [ez] at he
      simp only [endOf, Option.some.injEq, Prod.mk.injEq] at he
      obtain ⟨rfl, _⟩ := he
      rw [hg] at k1
      injection k1 with k1
      omega
  have fin : ∀ (es' : Array MapEntry) (clock' : Nat), es'.toList.map (·.key) = (mput q k xs).map (fun x => KK.enc x.1) → dens w (giveJ M tz J) ((mput q k xs).map fun x => Ty.rowO E Tb J x.2) (es'.toList.map (·.val)) → Apart E.size (es'.toList.map (·.val)) →
      (Instr.mapUpdate mt (.map (some b)) (KK.enc k) (a.eval z)).run P w = .ok () { w with heap := w.heap.setIfInBounds b (.map es' clock') } →
      ∃ w', (execOp a.eval ⟨none, .mapUpdate mt x y z, t, p, e, none⟩).run P w = .ok .skip w' ∧ Fx.left { d := none, S := [tg], K := [tz], sets := [(tg, .mr KK.enc E Tb J (mput q k xs))], rs := opR x ++ (opR y ++ opR z), rt := [tg] } w M w' undef := by
    intro es' clock' hk' hd' hap hrun
    have hr : (execOp a.eval ⟨none, .mapUpdate mt x y z, t, p, e, none⟩).run P w = .ok .skip { w with heap := w.heap.setIfInBounds b (.map es' clock') } := by
      simp only [execOp, e1, hk _ _ _ hyd]
      simp [hrun]
    have wf2 := giveJ_wf (tg := tz) hJ wf
    have e2' : giveJ M tz J b = some tg := by simp [giveJ, e2, hne'.symm]
    have le2 : Le (· ∈ [tg]) (· ∈ ([] : List Nat)) w (giveJ M tz J) { w with heap := w.heap.setIfInBounds b (.map es' clock') } (giveJ M tz J) := by
      refine ⟨by simp, rfl, rfl, rfl, fun b2 hlt hm2 => ⟨hm2, ?_⟩, fun b2 u hm2 _ => ⟨hm2, fun hs => ?_⟩⟩
      · have : b ≠ b2 := fun h => by subst h; rw [e2'] at hm2; cases hm2
        simp [Array.getElem?_setIfInBounds, this]
      · have : b ≠ b2 := fun h => by subst h; rw [e2'] at hm2; injection hm2 with hm2; exact hs (by simp [hm2])
        simp [Array.getElem?_setIfInBounds, this]
    have le : Le (· ∈ [tg]) (· ∈ [tz]) w M { w with heap := w.heap.setIfInBounds b (.map es' clock') } (giveJ M tz J) :=
      ((giveJ_le (w := w) (M := M) (tg := tz) (J := J)).trans le2).weaken (fun u hu => by rcases hu with h | h; cases h; exact h) (fun u hu => by rcases hu with h | h; exact h; cases h)
    refine ⟨_, hr, _, ⟨fun b2 u h => by simpa using wf2.lt b2 u h, wf2.inj⟩, le, trivial, fun x hx => ?_⟩
    rw [List.mem_singleton.1 hx]
    refine ⟨mput_keys q k xs hn, b, es', clock', e2', by simp [hblt], hk', ?_, hap⟩
    exact dens_mono le2 (fun _ _ => by simp) (fun u hu => by rw [rows_deps.2 u hu]; simp; omega) hd'
  rcases run_find KK h4 h5 k with ⟨i, v0, en, hi, hg, hen, hkey, hd, hf⟩ | ⟨hi, hg, hf⟩
  · obtain ⟨v1, hv1, _, hput⟩ := mget_pos q k i hi
    have hes : (es.modify i fun e => { e with key := KK.enc k, val := a.eval z }).toList = es.toList.set i { en with key := KK.enc k, val := a.eval z } := by
      rw [Array.toList_modify, List.modify_eq_set, Array.getElem?_toList, hen]; rfl
    refine fin (es.modify i fun e => { e with key := KK.enc k, val := a.eval z }) clock ?_ ?_ ?_ ?_
    · rw [hput, List.map_set, hes, List.map_set, h4]
    · rw [hput, List.map_set, hes, List.map_set]
      exact dens_set hvals hrow
    · rw [hes, List.map_set]
      intro i1 j1 v u g e' e'' hi1 hj1 hv hu
      rw [List.getElem?_set] at hi1 hj1
      by_cases c1 : i = i1 <;> by_cases c2 : i = j1
      · omega
      · rw [if_pos c1] at hi1; rw [if_neg c2] at hj1
        split at hi1
        · injection hi1 with hi1
          have hi1 : a.eval z = v := hi1
          subst hi1
          exact (apart0 g e' hv j1 u e'' hj1 hu).elim
        · cases hi1
      · rw [if_neg c1] at hi1; rw [if_pos c2] at hj1
        split at hj1
        · injection hj1 with hj1
          have hj1 : a.eval z = u := hj1
          subst hj1
          exact (apart0 g e'' hu i1 v e' hi1 hv).elim
        · cases hj1
      · rw [if_neg c1] at hi1; rw [if_neg c2] at hj1
        exact h6 i1 j1 v u g e' e'' hi1 hj1 hv hu
    · simp [Instr.mapUpdate, underlying, hu, getObj, setObj, Sem.run, h3, KK.check, hf, hen, hkey, Instr.keyThatStays, KK.same]
  · obtain ⟨_, hput⟩ := mget_none q k hi
    refine fin (es.push { key := KK.enc k, val := a.eval z, born := clock }) (clock + 1) ?_ ?_ ?_ ?_
    · rw [hput]; simp [h4]
    · rw [hput]; simp only [Array.toList_push, List.map_append, List.map_cons, List.map_nil]
      exact dens_append hvals ⟨hrow, trivial⟩
    · simp only [Array.toList_push, List.map_append, List.map_cons, List.map_nil]
      intro i1 j1 v u g e' e'' hi1 hj1 hv hu
      rw [List.getElem?_append] at hi1 hj1
      split at hi1 <;> split at hj1
      · exact h6 i1 j1 v u g e' e'' hi1 hj1 hv hu
      · rw [List.getElem?_singleton] at hj1
        split at hj1
        · injection hj1 with hj1
          subst hj1
          exact (apart0 g e'' hu i1 v e' hi1 hv).elim
        · cases hj1
      · rw [List.getElem?_singleton] at hi1
        split at hi1
        · injection hi1 with hi1
          subst hi1
          exact (apart0 g e' hv j1 u e'' hj1 hu).elim
        · cases hi1
      · rw [List.getElem?_singleton] at hi1 hj1
        split at hi1 <;> split at hj1 <;> first | omega | (exfalso; simp at hj1; done) | (exfalso; simp at hi1; done)
    · simp [Instr.mapUpdate, underlying, hu, getObj, setObj, Sem.run, h3, KK.check, hf]
theorem eraseIdx_map {β γ : Type} (f : β → γ) : ∀ (l : List β) (i : Nat), (l.eraseIdx i).map f = (l.map f).eraseIdx i
  | [], _ => rfl
  | _ :: _, 0 => rfl
  | x :: l, i + 1 => by simp [eraseIdx_map f l i]
theorem eraseIdx_dens {w : World} {M : Tags} : ∀ {l : List Ty} {vs : List Value} (i : Nat), dens w M l vs → dens w M (l.eraseIdx i) (vs.eraseIdx i)
  | [], [], _, _ => trivial
  | _ :: _, _ :: _, 0, ⟨_, h⟩ => h
  | _ :: _, _ :: _, i + 1, ⟨h, h'⟩ => ⟨h, eraseIdx_dens i h'⟩
theorem eraseIdx_apart {vs : List Value} {size : Nat} (h : Apart size vs) (i : Nat) : Apart size (vs.eraseIdx i) := by
  intro i1 j1 v u g e' e'' hi1 hj1 hv hu
  rw [List.getElem?_eraseIdx] at hi1 hj1
  split at hi1 <;> split at hj1
  · exact h _ _ v u g e' e'' hi1 hj1 hv hu
  · have := h _ _ v u g e' e'' hi1 hj1 hv hu; omega
  · have := h _ _ v u g e' e'' hi1 hj1 hv hu; omega
  · have := h _ _ v u g e' e'' hi1 hj1 hv hu; omega
omit T in
theorem r_deleteQ {x y : Operand} {kty : Ty} {kt' : TypeId} (KK : KeyK P kt κ) (hx : A.op fr x = .mp tg) (hc : A.tag tg = some (.mr KK.enc E Tb J q)) (h1 : Tag1 tg) (hy : A.op fr y = kty) (hk : KeyAt kty (KK.enc k)) (hm : mapOf P mt = some (kt, et)) (hJ : Nat.beq J tg = false)
    (h : TOps P fr ops rest (A.after { d := none, S := [tg], sets := [(tg, .mr KK.enc E Tb J (mdel q k))], rs := opR x ++ opR y, rt := [tg] }) fun A' l' => K A' ((A, { d := none, S := [tg], sets := [(tg, .mr KK.enc E Tb J (mdel q k))], rs := opR x ++ opR y, rt := [tg] }) :: l')) :
    TOps P fr ops (⟨none, .call ⟨.builtin .delete, #[x, y], #[mt, kt']⟩, t, p, e, none⟩ :: rest) A K := by
  have hJ' : J ≠ tg := fun h => by subst h; simp at hJ
  refine ⟨_, opT_mem rfl rfl (by simp) (by simpa using h1.1) (by simp) fun a w M wf hrd htg => ?_, h⟩
  obtain ⟨hn, b, es, clock, e1, e2, h3, h4, h5, h6⟩ := mr_at hx hc h1 wf (fun c hc => List.mem_append_left _ hc) hrd htg
  have hyd := op_den (fun c hc => List.mem_append_right (opR x) hc) hrd
  rw [hy] at hyd
  have ey := hk _ _ _ hyd
  have hu := mapOf_und hm
  have hblt : b < w.heap.size := wf.lt b _ e2
  have fin : ∀ (es' : Array MapEntry), es'.toList.map (·.key) = (mdel q k).map (fun x => KK.enc x.1) → dens w M ((mdel q k).map fun x => Ty.rowO E Tb J x.2) (es'.toList.map (·.val)) → Apart E.size (es'.toList.map (·.val)) → ((mdel q k).map Prod.fst).Nodup →
      (Builtin.delete_ #[mt, kt'] t #[a.eval x, a.eval y]).run P w = .ok (.tuple #[]) { w with heap := w.heap.setIfInBounds b (.map es' clock) } →
      ∃ v w', (execOp a.eval ⟨none, .call ⟨.builtin .delete, #[x, y], #[mt, kt']⟩, t, p, e, none⟩).run P w = .ok (.value v) w' ∧ Fx.left { d := none, S := [tg], sets := [(tg, .mr KK.enc E Tb J (mdel q k))], rs := opR x ++ opR y, rt := [tg] } w M w' v := by
    intro es' hk' hd' hap hnd hrun
    have le : Le (· ∈ [tg]) (· ∈ ([] : List Nat)) w M { w with heap := w.heap.setIfInBounds b (.map es' clock) } M := by
      refine ⟨by simp, rfl, rfl, rfl, fun b2 hlt hm2 => ⟨hm2, ?_⟩, fun b2 u hm2 _ => ⟨hm2, fun hs => ?_⟩⟩
      · have : b ≠ b2 := fun h => by subst h; rw [e2] at hm2; cases hm2
        simp [Array.getElem?_setIfInBounds, this]
      · have : b ≠ b2 := fun h => by subst h; rw [e2] at hm2; injection hm2 with hm2; exact hs (by simp [hm2])
        simp [Array.getElem?_setIfInBounds, this]
    refine ⟨.tuple #[], _, by simp [execOp, resolve, invoke, builtin, hrun], M, ⟨fun b2 u h => by simpa using wf.lt b2 u h, wf.inj⟩, le, trivial, fun x hx => ?_⟩
    rw [List.mem_singleton.1 hx]
    refine ⟨hnd, b, es', clock, e2, by simp [hblt], hk', ?_, hap⟩
    exact dens_mono le (fun _ _ => by simp) (fun u hu => by rw [rows_deps.2 u hu]; simpa using hJ') hd'
  rcases run_find KK h4 h5 k with ⟨i, v0, en, hi, hg, hen, hkey, hd, hf⟩ | ⟨hi, hg, hf⟩
  · have hdel : mdel q k = q.eraseIdx i := by unfold mdel; rw [hi]; rfl
    have hes : (es.eraseIdxIfInBounds i).toList = es.toList.eraseIdx i := by
      have hil : i < es.size := (Array.getElem?_eq_some_iff.1 hen).1
      rw [Array.eraseIdxIfInBounds, dif_pos hil, Array.toList_eraseIdx]
    refine fin (es.eraseIdxIfInBounds i) ?_ ?_ ?_ ?_ ?_
    · rw [hes, hdel, eraseIdx_map, h4, eraseIdx_map]
    · rw [hes, hdel, eraseIdx_map, eraseIdx_map]; exact eraseIdx_dens i h5
    · rw [hes, eraseIdx_map]; exact eraseIdx_apart h6 i
    · rw [hdel, eraseIdx_map]; exact (List.eraseIdx_sublist _ i).nodup hn
    · rw [e1, ey]
      simp [Builtin.delete_, underlying, hu, getObj, setObj, Sem.run, h3, KK.check, hf]
  · have hdel : mdel q k = q := by unfold mdel; rw [hi]; exact List.eraseIdx_of_length_le (Nat.le_refl _)
    refine fin es ?_ ?_ h6 ?_ ?_
    · rw [hdel]; exact h4
    · rw [hdel]; exact h5
    · rw [hdel]; exact hn
    · rw [e1, ey]
      simp [Builtin.delete_, underlying, hu, getObj, setObj, Sem.run, h3, KK.check, hf]
end
end Go.T

namespace Go.T
open Go Go.RowKit
theorem find_asking {P : Program} {kt : TypeId} {κ : Type} [DecidableEq κ] {enc : κ → Value} (heq : ∀ (x y : κ) (w : World), (Op.equal kt (enc x) (enc y)).run P w = .ok (decide (x = y)) w) (k : κ) : ∀ (ks : List κ) (es : List MapEntry) (i : Nat) (w : World), es.map (·.key) = ks.map enc →
    (Instr.findAsking kt (enc k) es i).run P w = .ok ((ks.findIdx? (fun x => decide (x = k))).bind fun j => (es[j]?).map fun e => (i + j, e.val)) w
  | [], [], i, w, _ => rfl
  | [], e :: es, i, w, h => by cases h
  | x :: ks, [], i, w, h => by cases h
  | x :: ks, e :: es, i, w, h => by
    simp only [List.map_cons, List.cons.injEq] at h
    obtain ⟨h1, h2⟩ := h
    rw [Instr.findAsking, h1]
    simp only [Sem.run_bind, heq, Result.andThen_ok]
    by_cases hx : x = k
    · subst hx; simp [List.findIdx?_cons]
    · have hk : ¬ k = x := fun e => hx e.symm
      rw [decide_eq_false hk]
      simp only [Bool.false_eq_true, if_false]
      rw [find_asking heq k ks es (i + 1) w h2]
      simp only [List.findIdx?_cons, decide_eq_false hx, Bool.false_eq_true, if_false]
      cases (ks.findIdx? fun x => decide (x = k)) with
      | none => rfl
      | some j => simp [Nat.add_assoc, Nat.add_comm]; rw [show j + (i + 1) = i + (j + 1) from by omega]
abbrev Nums (n : Nat) : Type := {l : List Int // l.length = n}
def encN (n : Nat) (l : Nums n) : Value := .agg (l.1.map (Value.int .i64)).toArray
theorem find_now_none {D : TypeDesc} {k : Value} (h : ∀ v, Instr.sameNow D k v = none) : ∀ (es : List MapEntry) (i : Nat), es ≠ [] → Instr.findNow D k es i = none
  | [], _, h0 => absurd rfl h0
  | e :: es, i, _ => by rw [Instr.findNow, h]
theorem same_all : ∀ (l : List Int), ((l.map (Value.int .i64)).zip (l.map (Value.int .i64))).all (fun x => Instr.sameBits 9999 x.1 x.2) = true
  | [] => rfl
  | a :: l => by simp [Instr.sameBits, same_all l]
def arrKey (P : Program) (kt n et : Nat) (hu : P.underlying kt = some (.array n et)) (heq : ∀ (x y : Nums n) (w : World), (Op.equal kt (encN n x) (encN n y)).run P w = .ok (decide (x = y)) w)
    (hcheck : ∀ (b : Bool) (x : Nums n) (w : World), (Instr.checkKey b 10000 kt (encN n x)).run P w = .ok () w) : KeyK P kt (Nums n) where
  enc := encN n
  find k ks es w he := by
    have h1 := find_asking heq k ks es 0 w he
    cases es with
    | nil =>
      cases ks with
      | nil => simp [Instr.findKey, underlying, hu, Instr.findNow]
      | cons x l => cases he
    | cons e es =>
      have h2 : Instr.findNow (.array n et) (encN n k) (e :: es) 0 = none := find_now_none (fun v => rfl) _ _ (by simp)
      simp only [Instr.findKey, Sem.run_bind, run_underlying hu, Result.andThen_ok, h2]
      simpa using h1
  check b k w := hcheck b k w
  same k := by
    show Instr.sameBits 10000 (.agg _) (.agg _) = true
    rw [show (10000 : Nat) = 9999 + 1 from rfl, Instr.sameBits]
    simp only [beq_self_eq_true, Bool.true_and, List.toList_toArray]
    exact same_all k.1
theorem ints_dens {w : World} {M : Tags} : ∀ (l : List Int) (vs : List Value), dens w M (l.flatMap I64.tys) vs → vs = l.map (Value.int .i64)
  | [], [], _ => rfl
  | a :: l, v :: vs, ⟨h, h'⟩ => by
    have e : v = .int .i64 a := h
    rw [e, List.map_cons, ints_dens l vs h']
theorem key_agg {n : Nat} (l : Nums n) : KeyAt (.agg (l.1.flatMap I64.tys)) (encN n l) := fun w M x ⟨cs, e, hd⟩ => by
  rw [e]
  have := ints_dens l.1 cs.toList hd
  unfold encN
  rw [← this]
end Go.T

namespace Go.T
open Go Go.RowKit Go.Lib
def dRm (T size tg n : Nat) (w : World) (M : Tags) (v : Value) : Prop :=
  ∃ (b c : Nat) (cur : Array Value), v = .slice (some ⟨b, 0, none⟩) n c ∧ n ≤ c ∧ c ≤ maxLen ∧ M b = some tg ∧ w.heap[b]? = some (.cells cur T (0, 0)) ∧ cur.size = c * size
def Ty.rm (T size tg n : Nat) : Ty :=
  ⟨dRm T size tg n, [tg], [tg], fun le hk hs ⟨b, c, cur, h1, h2, h3, h4, h5, h6⟩ =>
    have h := le.own b tg h4 (hk tg (by simp))
    ⟨b, c, cur, h1, h2, h3, h.1, (h.2 (hs tg (by simp))).trans h5, h6⟩, true, fun _ ⟨_, _, _, h1, _⟩ => by subst h1; rfl⟩
section
variable {P : Program} {fr : Fr} {ops : Array Oper} {A : As} {rest : List Oper} {K : As → List (As × Fx) → Prop} {d : Nat} {t ty' ty2 : TypeId} {p : String} {e : Array Edge} [T : Tab P]
theorem r_appendN {x y : Operand} {k : IntKind} {n : Int} {st it el : Nat} {ti te tn : TI} {kn : IntKind} (hx : A.op fr x = .ex (.slice none 0 0)) (hy : A.op fr y = .int k n) (hT : T.tab[st]? = some ti) (hk : ti.k = .slice el) (hI : T.tab[it]? = some tn) (hkn : tn.k = .int kn) (hE : T.tab[el]? = some te) (hz : te.zero.length = te.size) (hzp : 0 < te.size) (hp : fr.pass.contains (d + 1) = false)
    (hn : 0 < n) (hlen : n.toNat * te.bytes ≤ 140737488355328) (hlen' : n.toNat ≤ 4611686018427387904)
    (h : TOps P fr ops rest (A.after { d := some d, ty := .rm el te.size (d + 1) n.toNat, K := [d + 1], rs := opR x ++ opR y }) fun A' l' => K A' ((A, { d := some d, ty := .rm el te.size (d + 1) n.toNat, K := [d + 1], rs := opR x ++ opR y }) :: l')) :
    TOps P fr ops (⟨some d, .call ⟨.builtin .append, #[x, y], #[st, it]⟩, t, p, e, none⟩ :: rest) A K := by
  refine ⟨_, opT_mem rfl rfl (by simp) (by simp) (by simp at hp ⊢; exact hp) fun a w M wf hr _ => ?_, h⟩
  obtain ⟨hdx, hdy⟩ := op2 hr
  rw [hx] at hdx; rw [hy] at hdy
  have ex : a.eval x = .slice none 0 0 := hdx
  have ey : a.eval y = .int k n := hdy
  obtain ⟨_, D, _, hD, hkd, _⟩ := tab_info hT
  rw [hk] at hkd
  cases D <;> simp only [TK.of, reduceCtorEq, TK.slice.injEq] at hkd
  rename_i el0
  have hel : el0 = el := hkd
  subst hel
  obtain ⟨_, D', _, hD', hkd', _⟩ := tab_info hI
  rw [hkn] at hkd'
  cases D' <;> simp only [TK.of, reduceCtorEq, TK.int.injEq] at hkd'
  subst hkd'
  rename_i kk
  obtain ⟨i, _, hi, _, _, hsz, hby, hze⟩ := tab_info hE
  obtain ⟨z, hiz⟩ : ∃ z, i.zero = some z := by
    cases hiz : i.zero with
    | none => rw [hiz] at hze; rw [← hze] at hz; simp at hz; omega
    | some z => exact ⟨z, rfl⟩
  rw [hiz] at hze
  have hzs : z.cells.size = i.size := by rw [hsz, ← hz, ← hze]; simp
  have hnn : ((n.toNat : Nat) : Int) = n := by omega
  have hfit := growslice_fits (need := n.toNat) (old := 0) (bytes := i.bytes) (by omega) (by rw [hby]; exact hlen)
  have hrun := run_append_grow_zeros (P := P) w st it t _ i z k kk hD hD' hi hiz none 0 0 [] (run_firstCells_none w.drew i.size 0 0 0) n.toNat (by omega) (by omega) (by omega) (by omega) (by rw [hby]; omega) (by simpa using hfit)
  rw [hnn] at hrun
  simp only [Nat.zero_add] at hrun
  have hge := grownCap_ge w n.toNat 0 el0
  have hle := grownCap_le_maxLen w n.toNat 0 el0 (by simp only [maxLen]; omega)
  generalize grownCap w n.toNat 0 el0 = C at *
  have wf' : Wf w.drew M := ⟨wf.lt, wf.inj⟩
  have hcs : (([] : List Value).toArray ++ Builtin.zeroCells z.cells n.toNat ++ Builtin.zeroCells z.cells (C - n.toNat)).size = C * te.size := by
    simp only [Array.size_append, Builtin.zeroCells, Array.size_map, Array.size_range, hzs, hsz, List.size_toArray, List.length_nil, Nat.zero_add]
    rw [← Nat.add_mul]; congr 1; omega
  generalize ([] : List Value).toArray ++ Builtin.zeroCells z.cells n.toNat ++ Builtin.zeroCells z.cells (C - n.toNat) = cur at *
  obtain ⟨h1, h2, h3⟩ := le_alloc wf' (.cells cur el0) (d + 1)
  refine ⟨_, _, by simp [execOp, resolve, invoke, builtin, ex, ey, hrun], retag M (d + 1) (some w.heap.size), h1, ⟨h2.size, h2.os, h2.tape, h2.out, h2.pub, h2.own⟩, ⟨w.heap.size, C, cur, rfl, hge, hle, h3, alloc_new w.drew _, hcs⟩, by simp⟩
theorem r_cut_rm0 {α : Type} (E : El α) {x y : Operand} {k : IntKind} {el tg n : Nat} {ti te : TI} (hx : A.op fr x = .rm el te.size tg n) (hy : A.op fr y = .int k 0) (h1 : 1 ≤ tg) (hp : fr.pass.contains tg = false) (hT : T.tab[ty']? = some ti) (hk : ti.k = .slice el) (hE : T.tab[el]? = some te) (hs : te.size = E.size)
    (h : TOps P fr ops rest (A.after { d := some d, ty := .row E el tg [], K := [tg], rs := opR x ++ opR y }) fun A' l' => K A' ((A, { d := some d, ty := .row E el tg [], K := [tg], rs := opR x ++ opR y }) :: l')) :
    TOps P fr ops (⟨some d, .slice ty' x none (some y) none, t, p, e, none⟩ :: rest) A K := by
  refine ⟨_, opT_mem rfl rfl (by simp) (by simp) (by simp at hp ⊢; exact ⟨h1, hp⟩) fun a w M wf hr _ => ?_, h⟩
  obtain ⟨hdx, hdy⟩ := op2 hr
  rw [hx] at hdx; rw [hy] at hdy
  obtain ⟨b, c, cur, ex, g1, g2, g3, g4, g5⟩ := hdx
  have ey : a.eval y = .int k 0 := hdy
  obtain ⟨_, D, _, hD, hkd, _⟩ := tab_info hT
  rw [hk] at hkd
  cases D <;> simp only [TK.of, reduceCtorEq, TK.slice.injEq] at hkd
  rename_i el0
  have hel : el0 = el := hkd
  subst hel
  obtain ⟨i, _, hi, _, _, hsz, hby, hze⟩ := tab_info hE
  refine ⟨.slice (some ⟨b, 0, none⟩) 0 c, w, ?_, M, wf, Le.refl _ _ _ _, ⟨[], ⟨by simp, .inr ⟨b, c, cur, rfl, Nat.zero_le _, g4, Nat.zero_le _, g2, by rw [g5, hs], by simp⟩⟩, trivial, fun g hg => by simp [Value.ownBlock] at hg; rw [← hg]; exact g3⟩, by simp⟩
  have hsz2 := fun w => run_sizeOf' (P := P) hE w
  simp [execOp, ex, ey, Instr.sliceAt, Instr.slice, run_underlying hD, Instr.sliceBounds, Instr.sliceBound, asIntOf, hsz2]
  exact fun _ => rfl
theorem r_cap_nil {x : Operand} {ti : TI} {el : Nat} (hx : A.op fr x = .ex (.slice none 0 0)) (hT : T.tab[ty']? = some ti) (hk : ti.k = .slice el)
    (h : TOps P fr ops rest (A.set d (.int .i64 0)) fun A' l' => K A' ((A, { d := some d, ty := .int .i64 0, rs := opR x }) :: l')) :
    TOps P fr ops (⟨some d, .call ⟨.builtin .cap, #[x], #[ty']⟩, t, p, e, none⟩ :: rest) A K :=
  tops_pure (opT_pure rfl rfl fun a w M _ hrd _ => by
    have hdx := op_den (x := x) (fun _ h => h) hrd
    rw [hx] at hdx
    have ex : a.eval x = .slice none 0 0 := hdx
    obtain ⟨_, D, _, hD, hkd, _⟩ := tab_info hT
    rw [hk] at hkd
    cases D <;> simp only [TK.of, reduceCtorEq, TK.slice.injEq] at hkd
    exact ⟨.int .i64 0, by simp [execOp, resolve, invoke, builtin, ex, Builtin.cap_, run_underlying hD, goInt], rfl⟩) h
theorem r_cut_nil {x y : Operand} {k : IntKind} {ti te : TI} {el : Nat} (hx : A.op fr x = .ex (.slice none 0 0)) (hy : A.op fr y = .int k 0) (hT : T.tab[ty']? = some ti) (hk : ti.k = .slice el) (hE : T.tab[el]? = some te)
    (h : TOps P fr ops rest (A.set d (.ex (.slice none 0 0))) fun A' l' => K A' ((A, { d := some d, ty := .ex (.slice none 0 0), rs := opR x ++ opR y }) :: l')) :
    TOps P fr ops (⟨some d, .slice ty' x none (some y) none, t, p, e, none⟩ :: rest) A K :=
  tops_pure (opT_pure rfl rfl fun a w M _ hr _ => by
    obtain ⟨hdx, hdy⟩ := op2 hr
    rw [hx] at hdx; rw [hy] at hdy
    have ex : a.eval x = .slice none 0 0 := hdx
    have ey : a.eval y = .int k 0 := hdy
    obtain ⟨_, D, _, hD, hkd, _⟩ := tab_info hT
    rw [hk] at hkd
    cases D <;> simp only [TK.of, reduceCtorEq, TK.slice.injEq] at hkd
    subst hkd
    have hsz2 := fun w => run_sizeOf' (P := P) hE w
    exact ⟨.slice none 0 0, by simp [execOp, ex, ey, Instr.sliceAt, Instr.slice, run_underlying hD, Instr.sliceBounds, Instr.sliceBound, asIntOf, hsz2], rfl⟩) h
omit T in
theorem r_remN {x y : Operand} {k n : Nat} (hx : A.op fr x = .int .i64 ((k : Int) + 1)) (hy : A.op fr y = .int .i64 (n : Int)) (h0 : n ≠ 0)
    (h : TOps P fr ops rest (A.set d (.int .i64 ((k + 1) % n : Nat))) fun A' l' => K A' ((A, { d := some d, ty := .int .i64 ((k + 1) % n : Nat), rs := opR x ++ opR y }) :: l')) : TOps P fr ops (⟨some d, .binOp .rem ty' x y ty2, t, p, e, none⟩ :: rest) A K := by
  have e0 : ((k : Int) + 1).tmod (n : Int) = ((k + 1) % n : Nat) := by rw [Int.ofNat_tmod]; rfl
  exact r_rem hx hy (by omega) (by rw [e0]; exact h)
end
end Go.T

namespace Go.Proofs.YtpnndljmhpepgaaGreat
open Go Go.T
set_option maxHeartbeats 2000000
attribute [local irreducible] dInt dBool dSl dPp dPtr dAgg dTup dClo dAny dEx dStr dGd dCells dVec dVs dRow dOp nth Tri Into TOps Ctr bodyPost Exit.then Exit.inBlock Code.wp Code.wpIn dWhen dPa dPe dAo dArr dMp dPm dMap dCJ CtrG CtrI OpY keepPost iterPost bodyPostM roundQ
set_option maxRecDepth 100000 in
theorem c_rFirst (b : Barn) (hs : b.Small) : Ctr Tryz.prog 38 [barnT b] (Ty.sl I64 (b.lots.map (·.inn))) := by
  refine fn_intro Tryz.func38 rfl (by decide) Tryz.ntmps38 (by exact Nat.le_of_ble_eq_true rfl) fun w0 M0 => ?_
  have hs1 := hs.lots
  refine t_seq ?_
  refine t_region ?_
  refine r_box_agg rfl ?_
  refine asX rfl ?_
  refine r_nil ?_
  refine i_then ?_
  refine t_seq ?_
  refine t_region ?_
  refine asX rfl ?_
  refine r_nil ?_
  refine i_then ?_
  refine t_seq ?_
  refine t_seq ?_
  refine t_region ?_
  refine asI rfl ?_
  refine r_nil ?_
  refine i_then ?_
  refine t_block ?_
  refine t_loop (fun (k : {k : Nat // k ≤ b.lots.length}) => live [(1, Ty.pp (barnTys b)), (3, Ty.row I64 3 21 ((b.lots.take k.1).map (·.inn))), (4, Ty.int .i64 (k.1 : Nat))] []) (fun k => b.lots.length - k.1) (⟨0, by omega⟩) ?_ fun k => ?_
  · (refine Ent.mk' ?_ ?_ <;> (repeat' (first | exact allSub_zero | exact allTags_nil | refine allSub_succ' ?_ (Ty.sub_any _) | refine allSub_succ' ?_ (Ty.sub_refl _) | refine allSub_succ' ?_ Ty.nil_row)))
    all_goals exact nil_row_eq rfl
  ·
    have hk := k.2
    refine t_seq ?_
    refine t_seq ?_
    refine t_region ?_
    refine mvI rfl ?_
    refine r_field_pp rfl rfl rfl rfl rfl (by decide) ?_
    refine r_load_pp rfl rfl rfl rfl ?_
    refine r_len rfl rfl rfl ?_
    refine r_bin rfl rfl rfl ?_
    refine r_nil ?_
    refine i_then ?_
    refine t_cond_dec rfl (fun hc1 => ?_) (fun hc1 => ?_)
    ·
      refine t_skip ?_
      refine i_then ?_
      refine t_seq ?_
      refine t_block ?_
      refine t_region ?_
      refine mvR rfl ?_
      refine r_field_pp rfl rfl rfl rfl rfl (by decide) ?_
      refine r_load_pp rfl rfl rfl rfl ?_
      refine mvI rfl ?_
      refine r_index_slN rfl rfl rfl rfl rfl rfl (by omega) ?_
      refine r_field_pp rfl rfl rfl rfl rfl (by decide) ?_
      refine r_load_pp rfl rfl rfl rfl ?_
      refine r_buildSlice (E := I64) (xs := [_]) rfl rfl rfl rfl rfl (by decide) (by decide) (by repeat (first | exact (Parts.nil : Parts _ _ [] _) | (show Parts _ _ ((_, _) :: _) _; apply Parts.one; (· exact (rfl : _ = Ty.int _ _)); (· exact rfl)))) (by exact rfl) rfl ?_
      refine r_append rfl rfl (by decide) rfl rfl rfl rfl rfl rfl (by decide) (by (simp <;> omega)) (by (simp <;> omega)) ?_
      refine asR rfl ?_
      refine r_nil ?_
      refine i_block ?_
      refine i_then ?_
      refine t_region ?_
      refine mvI rfl ?_
      refine r_add rfl rfl (by omega) (by omega) ?_
      refine asI rfl ?_
      refine r_nil ?_
      refine i_round (⟨k.1 + 1, by omega⟩) ?_ (by show b.lots.length - (k.1 + 1) < b.lots.length - k.1; omega)
      (refine Ent.mk' ?_ ?_ <;> (repeat' (first | exact allSub_zero | exact allTags_nil | refine allSub_succ' ?_ (Ty.sub_any _) | refine allSub_succ' ?_ (Ty.sub_refl _) | refine allSub_succ' ?_ ?_)))
      all_goals skip
      all_goals exact Ty.sub_row (by rw [take_nth (by omega), List.map_append]; rfl)
    ·
      refine t_exit ?_
      refine i_then_exit ?_
      refine i_then_exit ?_
      refine i_block_exit rfl ?_
      refine i_then ?_
      refine t_seq ?_
      refine t_region ?_
      refine mvR rfl ?_
      refine asR rfl ?_
      refine r_nil ?_
      refine i_then ?_
      refine t_ret ?_
      refine i_rp1 rfl rfl ?_
      all_goals skip
      all_goals exact ret_row_eq (by decide) (by rw [List.take_of_length_le (by have := k.2; omega)])
set_option maxRecDepth 100000 in
theorem c_has (l : List Int) (n : Int) : Ctr Tryz.prog 91 [Ty.sl I64 l, Ty.int .i64 n] (Ty.bool (decide (n ∈ l))) := by
  refine fn_intro Tryz.func91 rfl (by decide) Tryz.ntmps91 (by exact Nat.le_of_ble_eq_true rfl) fun w0 M0 => ?_
  refine t_fact (s := 0) rfl rfl sl_len fun hl => ?_
  refine t_seq ?_
  refine t_region ?_
  refine asB rfl ?_
  refine r_nil ?_
  refine i_then ?_
  refine t_seq ?_
  refine t_seq ?_
  refine t_region ?_
  refine asI rfl ?_
  refine r_nil ?_
  refine i_then ?_
  refine t_block ?_
  refine t_loop (fun (k : {k : Nat // ∀ y ∈ l.take k, y ≠ n}) => live [(0, Ty.sl I64 l), (1, Ty.int .i64 n), (5, Ty.int .i64 (k.1 : Nat))] []) (fun k => l.length - k.1) (⟨0, by simp⟩) ?_ fun k => ?_
  · (refine Ent.mk' ?_ ?_ <;> (repeat' (first | exact allSub_zero | exact allTags_nil | refine allSub_succ' ?_ (Ty.sub_any _) | refine allSub_succ' ?_ (Ty.sub_refl _))))
  ·
    refine t_seq ?_
    refine t_seq ?_
    refine t_region ?_
    refine mvI rfl ?_
    refine mvS rfl ?_
    refine r_len rfl rfl rfl ?_
    refine r_bin rfl rfl rfl ?_
    refine r_nil ?_
    refine i_then ?_
    refine t_cond_dec rfl (fun hc1 => ?_) (fun hc1 => ?_)
    ·
      refine t_skip ?_
      refine i_then ?_
      refine t_seq ?_
      refine t_block ?_
      refine t_seq ?_
      refine t_region ?_
      refine mvS rfl ?_
      refine mvI rfl ?_
      refine r_index_slN rfl rfl rfl rfl rfl rfl (by omega) ?_
      refine r_load_pp rfl rfl rfl rfl ?_
      refine mvI rfl ?_
      refine r_bin rfl rfl rfl ?_
      refine r_nil ?_
      refine i_then ?_
      refine t_cond_dec rfl (fun hc2 => ?_) (fun hc2 => ?_)
      ·
        refine t_seq ?_
        refine t_region ?_
        refine asB rfl ?_
        refine r_nil ?_
        refine i_then ?_
        refine t_ret ?_
        refine i_block_ret ?_
        refine i_then_ret ?_
        refine i_then_ret ?_
        refine i_block_ret ?_
        refine i_then_ret ?_
        refine i_rp1 rfl rfl ?_
        all_goals skip
        exact ret_eq rfl rfl (congrArg Ty.bool (decide_eq_true (by rw [← hc2]; exact nth_mem (by omega))).symm)
      ·
        refine t_skip ?_
        refine i_block ?_
        refine i_then ?_
        refine t_region ?_
        refine mvI rfl ?_
        refine r_add rfl rfl (by omega) (by omega) ?_
        refine asI rfl ?_
        refine r_nil ?_
        refine i_round (⟨k.1 + 1, by rw [take_nth (by omega)]; intro y hy; rcases List.mem_append.1 hy with h | h; exact k.2 y h; rw [List.mem_singleton.1 h]; exact hc2⟩) ?_ (by show l.length - (k.1 + 1) < l.length - k.1; omega)
        (refine Ent.mk' ?_ ?_ <;> (repeat' (first | exact allSub_zero | exact allTags_nil | refine allSub_succ' ?_ (Ty.sub_any _) | refine allSub_succ' ?_ (Ty.sub_refl _))))
        all_goals skip
    ·
      refine t_exit ?_
      refine i_then_exit ?_
      refine i_then_exit ?_
      refine i_block_exit rfl ?_
      refine i_then ?_
      refine t_seq ?_
      refine t_region ?_
      refine asB rfl ?_
      refine r_nil ?_
      refine i_then ?_
      refine t_ret ?_
      refine i_rp1 rfl rfl ?_
      all_goals skip
      exact ret_eq rfl rfl (congrArg Ty.bool (decide_eq_false (fun h => by have := k.2; rw [List.take_of_length_le (by omega)] at this; exact this n h rfl)).symm)
end Go.Proofs.YtpnndljmhpepgaaGreat

namespace Go.Proofs.YtpnndljmhpepgaaGreat
open Go Go.T
section
variable {κ β : Type} [DecidableEq κ]
theorem mput_mem_keys (q : List (κ × β)) (k : κ) (v : β) (x : κ) : x ∈ (mput q k v).map Prod.fst ↔ x = k ∨ x ∈ q.map Prod.fst := by
  induction q with
  | nil => simp [mput]
  | cons y l ih =>
    simp only [mput]
    by_cases h : y.1 = k
    · subst h; simp
    · rw [if_neg h]; simp only [List.map_cons, List.mem_cons, ih]
      constructor
      · rintro (h | h | h)
        · exact .inr (.inl h)
        · exact .inl h
        · exact .inr (.inr h)
      · rintro (h | h | h)
        · exact .inr (.inl h)
        · exact .inl h
        · exact .inr (.inr h)
theorem mput_nodup (q : List (κ × β)) (k : κ) (v : β) (hn : (q.map Prod.fst).Nodup) : ((mput q k v).map Prod.fst).Nodup := by
  induction q with
  | nil => simp [mput]
  | cons y l ih =>
    rw [List.map_cons, List.nodup_cons] at hn
    simp only [mput]
    by_cases h : y.1 = k
    · subst h; rw [if_pos rfl, List.map_cons, List.nodup_cons]; exact hn
    · rw [if_neg h, List.map_cons, List.nodup_cons]
      refine ⟨fun hm => ?_, ih hn.2⟩
      rcases (mput_mem_keys l k v y.1).1 hm with e | e
      · exact h e
      · exact hn.1 e
theorem mget_some_mem {q : List (κ × β)} {k : κ} {v : β} (h : mget q k = some v) : k ∈ q.map Prod.fst := by
  induction q with
  | nil => cases h
  | cons y l ih =>
    simp only [mget] at h
    by_cases e : y.1 = k
    · subst e; simp
    · rw [if_neg e] at h; exact List.mem_cons_of_mem _ (ih h)
theorem mem_mget {q : List (κ × β)} {k : κ} (h : k ∈ q.map Prod.fst) : ∃ v, mget q k = some v := by
  induction q with
  | nil => cases h
  | cons y l ih =>
    simp only [mget]
    by_cases e : y.1 = k
    · exact ⟨_, if_pos e⟩
    · rw [if_neg e]; rw [List.map_cons, List.mem_cons] at h
      exact ih (h.resolve_left fun h => e h.symm)
theorem mget_not {q : List (κ × β)} {k : κ} (h : k ∉ q.map Prod.fst) : mget q k = none := by
  cases e : mget q k with
  | none => rfl
  | some v => exact absurd (mget_some_mem e) h
theorem mput_len (q : List (κ × β)) (k : κ) (v : β) (h : mget q k = none) : (mput q k v).length = q.length + 1 := by
  induction q with
  | nil => rfl
  | cons y l ih =>
    simp only [mget] at h
    by_cases e : y.1 = k
    · rw [if_pos e] at h; cases h
    · rw [if_neg e] at h; simp only [mput, if_neg e, List.length_cons, ih h]
theorem mdel_cons {α : Type} (y : κ × List α) (l : List (κ × List α)) (k : κ) : mdel (y :: l) k = if y.1 = k then l else y :: mdel l k := by
  unfold mdel
  rw [List.map_cons, List.findIdx?_cons]
  by_cases e : y.1 = k
  · rw [if_pos e, decide_eq_true e]; rfl
  · rw [if_neg e, decide_eq_false e]
    cases h : (l.map Prod.fst).findIdx? fun x => decide (x = k) with
    | none => simp
    | some i => simp
theorem mdel_keys {α : Type} (l : List (κ × List α)) (k : κ) : ∀ x, x ∈ (mdel l k).map Prod.fst → x ∈ l.map Prod.fst := by
  induction l with
  | nil => intro x h; exact h
  | cons y l ih =>
    intro x h
    rw [mdel_cons] at h
    by_cases e : y.1 = k
    · rw [if_pos e] at h; exact List.mem_cons_of_mem _ h
    · rw [if_neg e, List.map_cons, List.mem_cons] at h
      rw [List.map_cons, List.mem_cons]
      exact h.imp id (ih x)
theorem mdel_nodup {α : Type} (l : List (κ × List α)) (k : κ) (hn : (l.map Prod.fst).Nodup) : ((mdel l k).map Prod.fst).Nodup := by
  induction l with
  | nil => exact hn
  | cons y l ih =>
    rw [List.map_cons, List.nodup_cons] at hn
    rw [mdel_cons]
    by_cases e : y.1 = k
    · rw [if_pos e]; exact hn.2
    · rw [if_neg e, List.map_cons, List.nodup_cons]
      exact ⟨fun h => hn.1 (mdel_keys l k _ h), ih hn.2⟩
theorem mget_mdel {α : Type} (l : List (κ × List α)) (k k' : κ) (hn : (l.map Prod.fst).Nodup) : mget (mdel l k) k' = if k = k' then none else mget l k' := by
  induction l with
  | nil => show none = _; split <;> rfl
  | cons y l ih =>
    rw [List.map_cons, List.nodup_cons] at hn
    rw [mdel_cons]
    by_cases e : y.1 = k
    · rw [if_pos e]
      by_cases e2 : k = k'
      · rw [if_pos e2]; exact mget_not (by rw [← e2, ← e]; exact hn.1)
      · rw [if_neg e2]; simp only [mget]; rw [if_neg (by rw [e]; exact e2)]
    · rw [if_neg e]; simp only [mget]
      by_cases e3 : y.1 = k'
      · rw [if_pos e3, if_neg (by rw [← e3]; exact fun h => e h.symm), if_pos e3]
      · rw [if_neg e3, ih hn.2, if_neg e3]
end
def rowAt {α : Type} (q : List (Int × List α)) (m : Int) : List α := (mget q m).getD []
theorem rowAt_put {α : Type} (q : List (Int × List α)) (n : Int) (r : List α) (m : Int) : rowAt (mput q n r) m = if n = m then r else rowAt q m := by
  unfold rowAt; rw [mget_mput]; split <;> rfl
theorem rowAt_del {α : Type} (q : List (Int × List α)) (n m : Int) (hn : (q.map Prod.fst).Nodup) : rowAt (mdel q n) m = if n = m then [] else rowAt q m := by
  unfold rowAt; rw [mget_mdel q n m hn]; split <;> rfl
def cntQ {α : Type} : List (Int × List α) → Int
  | [] => 0
  | x :: l => x.2.length + cntQ l
theorem cntQ_put {α : Type} (q : List (Int × List α)) (n : Int) (r : List α) : cntQ (mput q n r) = cntQ q - (rowAt q n).length + r.length := by
  induction q with
  | nil => simp [mput, cntQ, rowAt, mget]
  | cons y l ih =>
    simp only [mput]
    by_cases e : y.1 = n
    · rw [if_pos e]; simp only [cntQ, rowAt, mget, if_pos e, Option.getD_some]; omega
    · rw [if_neg e]; simp only [cntQ, ih]
      have : rowAt (y :: l) n = rowAt l n := by simp only [rowAt, mget, if_neg e]
      rw [this]; omega
theorem cntQ_del {α : Type} (q : List (Int × List α)) (n : Int) : cntQ (mdel q n) = cntQ q - (rowAt q n).length := by
  induction q with
  | nil => simp [mdel, cntQ, rowAt, mget]
  | cons y l ih =>
    rw [mdel_cons]
    by_cases e : y.1 = n
    · rw [if_pos e]; simp only [cntQ, rowAt, mget, if_pos e, Option.getD_some]; omega
    · rw [if_neg e]; simp only [cntQ, ih]
      have : rowAt (y :: l) n = rowAt l n := by simp only [rowAt, mget, if_neg e]
      rw [this]; omega
theorem cntQ_nonneg {α : Type} : ∀ (q : List (Int × List α)), 0 ≤ cntQ q
  | [] => Int.le_refl _
  | x :: l => by have := cntQ_nonneg l; simp only [cntQ]; omega
theorem cntQ_row {α : Type} (q : List (Int × List α)) (n : Int) : (rowAt q n).length ≤ cntQ q := by
  have h1 := cntQ_del q n
  have h2 := cntQ_nonneg (mdel q n)
  omega
theorem cntQ_pos {α : Type} : ∀ (q : List (Int × List α)), 0 < cntQ q → (q.map Prod.fst).Nodup → ∃ m, rowAt q m ≠ []
  | [], h, _ => by cases h
  | x :: l, h, hn => by
    rw [List.map_cons, List.nodup_cons] at hn
    by_cases e : x.2 = []
    · have : 0 < cntQ l := by simp only [cntQ, e, List.length_nil] at h; omega
      obtain ⟨m, hm⟩ := cntQ_pos l this hn.2
      refine ⟨m, ?_⟩
      have hne : x.1 ≠ m := fun e2 => hm (by unfold rowAt; rw [mget_not (by rw [← e2]; exact hn.1)]; rfl)
      simp only [rowAt, mget, if_neg hne]; exact hm
    · exact ⟨x.1, by simp only [rowAt, mget, if_pos]; exact e⟩
theorem nodup_sub {α : Type} [DecidableEq α] : ∀ {l L : List α}, l.Nodup → (∀ x ∈ l, x ∈ L) → l.length ≤ L.length
  | [], _, _, _ => Nat.zero_le _
  | x :: l, L, hn, h => by
    rw [List.nodup_cons] at hn
    have h1 := List.length_erase_of_mem (h x List.mem_cons_self)
    have h2 := nodup_sub (l := l) (L := L.erase x) hn.2 fun y hy => (List.mem_erase_of_ne (fun (e : y = x) => hn.1 (by rw [← e]; exact hy))).2 (h y (List.mem_cons_of_mem _ hy))
    have h3 := List.length_pos_of_mem (h x List.mem_cons_self)
    simp only [List.length_cons]; omega
def allL : Nat → List (List Int)
  | 0 => [[]]
  | n + 1 => (List.range 7).flatMap fun (k : Nat) => (allL n).map fun l => (k : Int) :: l
theorem mem_allL : ∀ {n : Nat} {l : List Int}, l.length = n → (∀ x ∈ l, 0 ≤ x ∧ x < 7) → l ∈ allL n
  | 0, l, h, _ => by rw [List.length_eq_zero_iff.1 h]; exact List.mem_singleton.2 rfl
  | n + 1, [], h, _ => by cases h
  | n + 1, x :: l, h, hr => by
    have hx := hr x List.mem_cons_self
    exact List.mem_flatMap.2 ⟨x.toNat, List.mem_range.2 (by omega), List.mem_map.2 ⟨l, mem_allL (by simpa using h) fun y hy => hr y (List.mem_cons_of_mem _ hy), by rw [show ((x.toNat : Nat) : Int) = x by omega]⟩⟩
def placesN : Nat := (allL 6).length
abbrev Pl := Nums 6
instance : Inhabited Pl := ⟨⟨[0, 0, 0, 0, 0, 0], rfl⟩⟩
def moved (p : Pl) (t : Tur) : Pl := ⟨p.1.set t.lot.toNat t.aim, by rw [List.length_set]; exact p.2⟩
def takenP (b : Barn) (p : Pl) (k : Int) : Bool := (p.1.take b.lots.length).any fun n => decide (n = k)
def turnsAt (b : Barn) (p : Pl) (k : Nat) : List Tur := if takenP b p k = true then [] else ((List.range b.lots.length).filter fun (i : Nat) => b.hold k i).map fun (i : Nat) => ⟨i, k⟩
def turnsL (b : Barn) (p : Pl) : List Tur := (List.range b.sizes.length).flatMap (turnsAt b p)
theorem mem_turnsAt {b : Barn} {p : Pl} {k : Nat} {t : Tur} : t ∈ turnsAt b p k ↔ t.aim = k ∧ 0 ≤ t.lot ∧ t.lot < b.lots.length ∧ takenP b p k = false ∧ b.hold k t.lot = true := by
  unfold turnsAt
  cases h : takenP b p k with
  | true => simp
  | false =>
    rw [if_neg (by decide), List.mem_map]
    simp only [List.mem_filter, List.mem_range]
    constructor
    · rintro ⟨i, ⟨h1, h2⟩, rfl⟩
      exact ⟨rfl, by show 0 ≤ (i : Int); omega, by show (i : Int) < _; omega, by first | rfl | trivial, h2⟩
    · rintro ⟨h1, h2, h3, _, h4⟩
      refine ⟨t.lot.toNat, ⟨by omega, by rw [show ((t.lot.toNat : Nat) : Int) = t.lot by omega]; exact h4⟩, ?_⟩
      cases t; simp only [Tur.mk.injEq] at *; exact ⟨by omega, h1.symm⟩
theorem mem_turnsL {b : Barn} {p : Pl} {t : Tur} : t ∈ turnsL b p ↔ 0 ≤ t.lot ∧ t.lot < b.lots.length ∧ 0 ≤ t.aim ∧ t.aim < b.sizes.length ∧ takenP b p t.aim = false ∧ b.hold t.aim t.lot = true := by
  unfold turnsL
  rw [List.mem_flatMap]
  constructor
  · rintro ⟨k, hk, h⟩
    rw [List.mem_range] at hk
    obtain ⟨h1, h2, h3, h4, h5⟩ := mem_turnsAt.1 h
    rw [h1]
    exact ⟨h2, h3, by omega, by omega, h4, h5⟩
  · rintro ⟨h1, h2, h3, h4, h5, h6⟩
    have e : ((t.aim.toNat : Nat) : Int) = t.aim := by omega
    exact ⟨t.aim.toNat, List.mem_range.2 (by omega), mem_turnsAt.2 ⟨e.symm, h1, h2, by rw [e]; exact h5, by rw [e]; exact h6⟩⟩
def madeP (b : Barn) (p : Pl) : Bool := (List.range b.lots.length).all fun i => decide ((nth b.lots i).aim = -1) || decide ((nth b.lots i).aim = nth p.1 i)
def firstP (b : Barn) : Pl := ⟨((b.lots.map fun (l : Lot) => l.inn) ++ List.replicate 6 (0 : Int)).take 6, by rw [List.length_take, List.length_append, List.length_replicate]; omega⟩
def goP (b : Barn) : Pl → List Tur → Option Pl
  | p, [] => some p
  | p, t :: l => if t ∈ turnsL b p then goP b (moved p t) l else none
theorem goP_append (b : Barn) : ∀ (l : List Tur) (p : Pl) (l' : List Tur), goP b p (l ++ l') = (goP b p l).bind fun q => goP b q l'
  | [], p, l' => rfl
  | t :: l, p, l' => by
    show (if t ∈ turnsL b p then goP b (moved p t) (l ++ l') else none) = Option.bind (if t ∈ turnsL b p then goP b (moved p t) l else none) _
    by_cases h : t ∈ turnsL b p
    · rw [if_pos h, if_pos h, goP_append b l (moved p t) l']
    · rw [if_neg h, if_neg h]; rfl
theorem goP_one {b : Barn} {p : Pl} {t : Tur} (h : t ∈ turnsL b p) : goP b p [t] = some (moved p t) := if_pos h
theorem goP_snoc {b : Barn} {p q : Pl} {l : List Tur} {t : Tur} (h1 : goP b p l = some q) (h2 : t ∈ turnsL b q) : goP b p (l ++ [t]) = some (moved q t) := by
  rw [goP_append, h1]; exact goP_one h2
theorem goP_snoc_inv {b : Barn} {p r : Pl} {l : List Tur} {t : Tur} (h : goP b p (l ++ [t]) = some r) : ∃ q, goP b p l = some q ∧ t ∈ turnsL b q ∧ r = moved q t := by
  rw [goP_append] at h
  cases h1 : goP b p l with
  | none => rw [h1] at h; cases h
  | some q =>
    rw [h1] at h
    have h : (if t ∈ turnsL b q then some (moved q t) else none) = some r := h
    by_cases h2 : t ∈ turnsL b q
    · rw [if_pos h2] at h; injection h with h; exact ⟨q, rfl, h2, h.symm⟩
    · rw [if_neg h2] at h; cases h
def costL (c : Tur → Int) (l : List Tur) : Int := (l.map c).sum
theorem costL_nil (c : Tur → Int) : costL c [] = 0 := rfl
theorem costL_append (c : Tur → Int) (l l' : List Tur) : costL c (l ++ l') = costL c l + costL c l' := by
  unfold costL; rw [List.map_append, List.sum_append]
theorem costL_one (c : Tur → Int) (t : Tur) : costL c [t] = c t := by simp [costL]
theorem list_snoc {α : Type} : ∀ (l : List α), l = [] ∨ ∃ l' x, l = l' ++ [x]
  | [] => .inl rfl
  | x :: l => by
    rcases list_snoc l with h | ⟨l', y, h⟩
    · subst h; exact .inr ⟨[], x, rfl⟩
    · subst h; exact .inr ⟨x :: l', y, rfl⟩
theorem snoc_ind {α : Type} {C : List α → Prop} (h0 : C []) (h1 : ∀ l x, C l → C (l ++ [x])) : ∀ l, C l := by
  intro l
  have key : ∀ n (l : List α), l.length = n → C l := by
    intro n
    induction n with
    | zero => intro l h; rw [List.length_eq_zero_iff.1 h]; exact h0
    | succ n ih =>
      intro l h
      rcases list_snoc l with e | ⟨l', x, e⟩
      · subst e; cases h
      · subst e; exact h1 l' x (ih l' (by simpa using h))
  exact key _ l rfl
def inBins (p : Pl) : Prop := ∀ x ∈ p.1, 0 ≤ x ∧ x < 7
theorem first_bins {b : Barn} (h : b.Right) : inBins (firstP b) := fun x hx => by
  have hx : x ∈ ((b.lots.map fun (l : Lot) => l.inn) ++ List.replicate 6 (0 : Int)).take 6 := hx
  rcases List.mem_append.1 (List.mem_of_mem_take hx) with hx | hx
  · obtain ⟨l, hl, rfl⟩ := List.mem_map.1 hx
    have h1 := h.inn l hl; have h2 := h.bins; omega
  · rw [List.eq_of_mem_replicate hx]; omega
theorem moved_bins {b : Barn} (h : b.Right) {p : Pl} {t : Tur} (hp : inBins p) (ht : t ∈ turnsL b p) : inBins (moved p t) := fun x hx => by
  rcases List.mem_or_eq_of_mem_set hx with hx | hx
  · exact hp x hx
  · have h1 := mem_turnsL.1 ht; have h2 := h.bins; omega
theorem goP_bins {b : Barn} (h : b.Right) : ∀ (l : List Tur) {p q : Pl}, inBins p → goP b p l = some q → inBins q
  | [], p, q, hp, e => by injection e with e; exact e ▸ hp
  | t :: l, p, q, hp, e => by
    have e : (if t ∈ turnsL b p then goP b (moved p t) l else none) = some q := e
    by_cases ht : t ∈ turnsL b p
    · rw [if_pos ht] at e; exact goP_bins h l (moved_bins h hp ht) e
    · rw [if_neg ht] at e; cases e
theorem few_places {l : List Pl} (hn : l.Nodup) (h : ∀ p ∈ l, inBins p) : l.length ≤ placesN := by
  have := nodup_sub (l := l.map Subtype.val) (L := allL 6) (by
    rw [List.nodup_iff_pairwise_ne, List.pairwise_map]
    exact hn.imp fun hab e => hab (Subtype.ext e)) fun x hx => by
      obtain ⟨p, hp, rfl⟩ := List.mem_map.1 hx
      exact mem_allL p.2 (h p hp)
  rwa [List.length_map] at this
theorem turnsAt_len (b : Barn) (p : Pl) (k : Nat) : (turnsAt b p k).length ≤ b.lots.length := by
  unfold turnsAt
  split
  · exact Nat.zero_le _
  · rw [List.length_map]; exact Nat.le_trans (List.length_filter_le _ _) (by simp)
theorem flat_len {α β : Type} (f : α → List β) (m : Nat) (h : ∀ x, (f x).length ≤ m) : ∀ l : List α, (l.flatMap f).length ≤ l.length * m
  | [] => Nat.zero_le _
  | x :: l => by
    have h1 := flat_len f m h l
    have h2 := h x
    rw [List.flatMap_cons, List.length_append, List.length_cons, Nat.succ_mul]; omega
theorem turnsL_len {b : Barn} (h : b.Right) (p : Pl) : (turnsL b p).length ≤ 42 := by
  have h1 := flat_len (turnsAt b p) b.lots.length (turnsAt_len b p) (List.range b.sizes.length)
  rw [List.length_range] at h1
  have h2 : b.sizes.length * b.lots.length ≤ 7 * 6 := Nat.mul_le_mul h.bins.2 h.lots
  exact Nat.le_trans h1 h2
attribute [irreducible] placesN
end Go.Proofs.YtpnndljmhpepgaaGreat

namespace Go.Proofs.YtpnndljmhpepgaaGreat
open Go Go.T
structure Way where
  frm : Pl
  byT : List Tur
  all : Int
  deriving Inhabited
structure Found where
  ways : List (Pl × Way)
  last : Pl
  is : Bool
  deriving Inhabited
def pl0 : Pl := ⟨[0, 0, 0, 0, 0, 0], rfl⟩
def way0 : Way := ⟨pl0, [], 0⟩
structure St where
  ways : List (Pl × Way)
  queue : List (Int × List Pl)
  left : Int
  done : List (Pl × Bool)
  now : Int
def metB (ways : List (Pl × Way)) (q : Pl) (n : Int) : Bool := (mget ways q).isSome && decide (min n ((mget ways q).getD way0).all = ((mget ways q).getD way0).all)
theorem metB_true {ways : List (Pl × Way)} {q : Pl} {n : Int} (h : metB ways q n = true) : ∃ w, mget ways q = some w ∧ w.all ≤ n := by
  unfold metB at h
  rw [Bool.and_eq_true] at h
  cases e : mget ways q with
  | none => rw [e] at h; exact absurd h.1 (by decide)
  | some w => rw [e] at h; have := of_decide_eq_true h.2; simp only [Option.getD_some] at this; exact ⟨w, rfl, by omega⟩
theorem metB_false {ways : List (Pl × Way)} {q : Pl} {n : Int} (h : metB ways q n = false) {w : Way} (e : mget ways q = some w) : n < w.all := by
  unfold metB at h
  rw [e] at h
  simp only [Option.isSome_some, Bool.true_and, Option.getD_some, decide_eq_false_iff_not] at h; omega
def relax (c : Tur → Int) (p : Pl) (x : St) (t : Tur) : St :=
  if metB x.ways (moved p t) (x.now + c t) = true then x else
    { x with ways := mput x.ways (moved p t) ⟨p, [t], x.now + c t⟩, queue := mput x.queue (x.now + c t) (rowAt x.queue (x.now + c t) ++ [moved p t]), left := x.left + 1 }
theorem relax_yes {c : Tur → Int} {p : Pl} {x : St} {t : Tur} (h : metB x.ways (moved p t) (x.now + c t) = true) : relax c p x t = x := if_pos h
theorem relax_no {c : Tur → Int} {p : Pl} {x : St} {t : Tur} (h : metB x.ways (moved p t) (x.now + c t) = false) : relax c p x t = { x with ways := mput x.ways (moved p t) ⟨p, [t], x.now + c t⟩, queue := mput x.queue (x.now + c t) (rowAt x.queue (x.now + c t) ++ [moved p t]), left := x.left + 1 } := if_neg (by rw [h]; decide)
theorem relax_done (c : Tur → Int) (p : Pl) (x : St) (t : Tur) : (relax c p x t).done = x.done := by unfold relax; split <;> rfl
theorem relax_now (c : Tur → Int) (p : Pl) (x : St) (t : Tur) : (relax c p x t).now = x.now := by unfold relax; split <;> rfl
structure Inv (b : Barn) (c : Tur → Int) (all : Bool) (F : Pl → List Tur) (R : Int) (x : St) : Prop where
  now0 : 0 ≤ x.now
  start : mget x.ways (firstP b) = some way0
  keys : (x.ways.map Prod.fst).Nodup
  qkeys : (x.queue.map Prod.fst).Nodup
  dkeys : (x.done.map Prod.fst).Nodup
  dval : ∀ p v, mget x.done p = some v → v = true
  via : ∀ q w, mget x.ways q = some w → q = firstP b ∨ ∃ t w', w.byT = [t] ∧ t ∈ turnsL b w.frm ∧ q = moved w.frm t ∧ mget x.done w.frm = some true ∧ mget x.ways w.frm = some w' ∧ w.all = w'.all + c t
  walk : ∀ q w, mget x.ways q = some w → ∃ l, goP b (firstP b) l = some q ∧ costL c l = w.all
  fin : ∀ p, mget x.done p = some true → ∃ w, mget x.ways p = some w ∧ w.all ≤ x.now ∧ ∀ t ∈ F p, ∃ w', mget x.ways (moved p t) = some w' ∧ w'.all ≤ w.all + c t
  wait : ∀ q w, mget x.ways q = some w → mget x.done q = none → x.now ≤ w.all ∧ q ∈ rowAt x.queue w.all
  que : ∀ m q, q ∈ rowAt x.queue m → x.now ≤ m ∧ m ≤ 300 * x.done.length ∧ ∃ w, mget x.ways q = some w ∧ w.all ≤ m
  left : x.left = cntQ x.queue
  lim : x.left + R ≤ 1 + 42 * x.done.length
  no : all = false → ∀ p, mget x.done p = some true → madeP b p = false
  cap : ∀ q w, mget x.ways q = some w → w.all ≤ 300 * x.done.length
structure At (b : Barn) (p : Pl) (x : St) : Prop where
  done : mget x.done p = some true
  way : ∃ w, mget x.ways p = some w ∧ w.all = x.now
  cap : x.now + 300 ≤ 300 * x.done.length
variable {b : Barn} {c : Tur → Int} {all : Bool} {F : Pl → List Tur} {R : Int} {x : St} {p : Pl} {t : Tur}
theorem Inv.weaken {R' : Int} (h : Inv b c all F R x) (hR : R' ≤ R) : Inv b c all F R' x := { h with lim := by have := h.lim; omega }
theorem Inv.fins {F' : Pl → List Tur} (h : Inv b c all F R x) (hF : ∀ p, mget x.done p = some true → ∀ t ∈ F' p, t ∈ F p) : Inv b c all F' R x :=
  { h with fin := fun p hp => let ⟨w, h1, h2, h3⟩ := h.fin p hp; ⟨w, h1, h2, fun t ht => h3 t (hF p hp t ht)⟩ }
theorem ne_moved (h : Inv b c all F R x) (hp : At b p x) (hct : 1 ≤ c t) (hm : metB x.ways (moved p t) (x.now + c t) = false) {r : Pl} {w : Way} (hw : mget x.ways r = some w) (hle : w.all ≤ x.now) : moved p t ≠ r := fun e => by
  subst e
  have := metB_false hm hw
  omega
theorem relax_inv (h : Inv b c all F R x) (hp : At b p x) (ht : t ∈ turnsL b p) (hct : 1 ≤ c t ∧ c t ≤ 300) : Inv b c all (fun r => if r = p then F r ++ [t] else F r) (R - 1) (relax c p x t) ∧ At b p (relax c p x t) := by
  obtain ⟨hpd, ⟨wp, hwp, hwn⟩, hcap⟩ := hp
  have hp : At b p x := ⟨hpd, ⟨wp, hwp, hwn⟩, hcap⟩
  have h0 := h.now0
  cases hm : metB x.ways (moved p t) (x.now + c t) with
  | true =>
    rw [relax_yes hm]
    refine ⟨{ h with fin := fun r hr => ?_, lim := by have := h.lim; omega }, hp⟩
    obtain ⟨w, h1, h2, h3⟩ := h.fin r hr
    refine ⟨w, h1, h2, fun u hu => ?_⟩
    by_cases e : r = p
    · subst e
      rw [if_pos rfl, List.mem_append, List.mem_singleton] at hu
      rcases hu with hu | hu
      · exact h3 u hu
      · subst hu
        obtain ⟨w', e1, e2⟩ := metB_true hm
        rw [hwp] at h1; injection h1 with h1
        exact ⟨w', e1, by rw [← h1, hwn]; exact e2⟩
    · rw [if_neg e] at hu; exact h3 u hu
  | false =>
    rw [relax_no hm]
    have hnf : moved p t ≠ firstP b := ne_moved h hp hct.1 hm h.start h0
    have hnd : ∀ r, mget x.done r = some true → moved p t ≠ r := fun r hr => by
      obtain ⟨w, h1, h2, _⟩ := h.fin r hr
      exact ne_moved h hp hct.1 hm h1 h2
    have hget : ∀ r, mget (mput x.ways (moved p t) ⟨p, [t], x.now + c t⟩) r = if moved p t = r then some ⟨p, [t], x.now + c t⟩ else mget x.ways r := fun r => mget_mput _ _ _ _
    refine ⟨⟨h0, by rw [hget, if_neg hnf]; exact h.start, mput_nodup _ _ _ h.keys, mput_nodup _ _ _ h.qkeys, h.dkeys, h.dval, fun q w hq => ?_, fun q w hq => ?_, fun r hr => ?_, fun q w hq hqd => ?_, fun m q hq => ?_, ?_, ?_, h.no, fun q w hq => ?_⟩, hpd, ⟨wp, by rw [hget, if_neg (hnd p hpd)]; exact hwp, hwn⟩, hcap⟩
    · rw [hget] at hq
      by_cases e : moved p t = q
      · rw [if_pos e] at hq; injection hq with hq; subst hq
        exact .inr ⟨t, wp, rfl, ht, e.symm, hpd, by rw [hget, if_neg (hnd p hpd)]; exact hwp, by show x.now + c t = wp.all + c t; omega⟩
      · rw [if_neg e] at hq
        rcases h.via q w hq with h1 | ⟨u, w', h1, h2, h3, h4, h5, h6⟩
        · exact .inl h1
        · exact .inr ⟨u, w', h1, h2, h3, h4, by rw [hget, if_neg (hnd _ h4)]; exact h5, h6⟩
    · rw [hget] at hq
      by_cases e : moved p t = q
      · rw [if_pos e] at hq; injection hq with hq; subst hq
        obtain ⟨l, h1, h2⟩ := h.walk p wp hwp
        exact ⟨l ++ [t], by rw [← e]; exact goP_snoc h1 ht, by rw [costL_append, costL_one, h2, hwn]⟩
      · rw [if_neg e] at hq; exact h.walk q w hq
    · obtain ⟨w, h1, h2, h3⟩ := h.fin r hr
      refine ⟨w, by rw [hget, if_neg (hnd r hr)]; exact h1, h2, fun u hu => ?_⟩
      have old : (∃ w', mget x.ways (moved r u) = some w' ∧ w'.all ≤ w.all + c u) → ∃ w', mget (mput x.ways (moved p t) ⟨p, [t], x.now + c t⟩) (moved r u) = some w' ∧ w'.all ≤ w.all + c u := fun ⟨w', g1, g2⟩ => by
        rw [hget]
        by_cases e : moved p t = moved r u
        · rw [if_pos e]; refine ⟨_, rfl, ?_⟩
          have := metB_false hm (by rw [e]; exact g1)
          show x.now + c t ≤ _; omega
        · rw [if_neg e]; exact ⟨w', g1, g2⟩
      by_cases e : r = p
      · subst e
        rw [if_pos rfl, List.mem_append, List.mem_singleton] at hu
        rcases hu with hu | hu
        · exact old (h3 u hu)
        · subst hu
          rw [hwp] at h1; injection h1 with h1
          exact ⟨_, by rw [hget, if_pos rfl], by show x.now + c u ≤ _; rw [← h1, hwn]; omega⟩
      · rw [if_neg e] at hu; exact old (h3 u hu)
    · rw [hget] at hq
      show x.now ≤ w.all ∧ q ∈ rowAt (mput x.queue (x.now + c t) (rowAt x.queue (x.now + c t) ++ [moved p t])) w.all
      rw [rowAt_put]
      by_cases e : moved p t = q
      · rw [if_pos e] at hq; injection hq with hq; subst hq
        rw [if_pos rfl]
        exact ⟨by show x.now ≤ x.now + c t; omega, List.mem_append.2 (.inr (List.mem_singleton.2 e.symm))⟩
      · rw [if_neg e] at hq
        obtain ⟨h1, h2⟩ := h.wait q w hq hqd
        refine ⟨h1, ?_⟩
        by_cases e2 : x.now + c t = w.all
        · rw [if_pos e2, e2]; exact List.mem_append.2 (.inl h2)
        · rw [if_neg e2]; exact h2
    · have hq : q ∈ rowAt (mput x.queue (x.now + c t) (rowAt x.queue (x.now + c t) ++ [moved p t])) m := hq
      rw [rowAt_put] at hq
      show x.now ≤ m ∧ m ≤ 300 * x.done.length ∧ ∃ w, mget (mput x.ways (moved p t) ⟨p, [t], x.now + c t⟩) q = some w ∧ w.all ≤ m
      rw [hget]
      have old : q ∈ rowAt x.queue m → x.now ≤ m ∧ m ≤ 300 * x.done.length ∧ ∃ w, (if moved p t = q then some ⟨p, [t], x.now + c t⟩ else mget x.ways q) = some w ∧ w.all ≤ m := fun hq => by
        obtain ⟨h1, h2, w, h3, h4⟩ := h.que m q hq
        refine ⟨h1, h2, ?_⟩
        by_cases e : moved p t = q
        · rw [if_pos e]
          have := metB_false hm (by rw [e]; exact h3)
          exact ⟨_, rfl, by show x.now + c t ≤ m; omega⟩
        · rw [if_neg e]; exact ⟨w, h3, h4⟩
      by_cases e2 : x.now + c t = m
      · rw [if_pos e2, List.mem_append, List.mem_singleton] at hq
        rcases hq with hq | hq
        · exact old (by rw [← e2]; exact hq)
        · subst hq
          rw [if_pos rfl]
          exact ⟨by omega, by omega, _, rfl, by show x.now + c t ≤ m; omega⟩
      · rw [if_neg e2] at hq; exact old hq
    · show x.left + 1 = cntQ (mput _ _ _)
      rw [cntQ_put, List.length_append, List.length_singleton, h.left]; omega
    · show x.left + 1 + (R - 1) ≤ 1 + 42 * x.done.length
      have := h.lim; omega
    · rw [hget] at hq
      show w.all ≤ 300 * x.done.length
      by_cases e : moved p t = q
      · rw [if_pos e] at hq; injection hq with hq; subst hq
        show x.now + c t ≤ _; omega
      · rw [if_neg e] at hq; exact h.cap q w hq
def upTo (b : Barn) (p : Pl) (k : Nat) (r : Pl) : List Tur := if r = p then (turnsL b p).take k else turnsL b r
def foldK (b : Barn) (c : Tur → Int) (p : Pl) (z : St) (k : Nat) : St := ((turnsL b p).take k).foldl (relax c p) z
theorem foldK_succ {z : St} {k : Nat} (hk : k < (turnsL b p).length) : foldK b c p z (k + 1) = relax c p (foldK b c p z k) (nth (turnsL b p) k) := by
  unfold foldK; rw [take_nth hk, List.foldl_append]; rfl
theorem foldK_done (z : St) (k : Nat) : (foldK b c p z k).done = z.done := by
  unfold foldK
  generalize (turnsL b p).take k = l
  induction l generalizing z with
  | nil => rfl
  | cons t l ih => rw [List.foldl_cons, ih, relax_done]
theorem foldK_now (z : St) (k : Nat) : (foldK b c p z k).now = z.now := by
  unfold foldK
  generalize (turnsL b p).take k = l
  induction l generalizing z with
  | nil => rfl
  | cons t l ih => rw [List.foldl_cons, ih, relax_now]
def CostOk (b : Barn) (c : Tur → Int) : Prop := ∀ t : Tur, 0 ≤ t.lot → t.lot < b.lots.length → 1 ≤ c t ∧ c t ≤ 300
theorem CostOk.at (hc : CostOk b c) (ht : t ∈ turnsL b p) : 1 ≤ c t ∧ c t ≤ 300 := hc t (mem_turnsL.1 ht).1 (mem_turnsL.1 ht).2.1
theorem fold_inv (hc : CostOk b c) {z : St} (h : Inv b c all (upTo b p 0) 42 z) (hp : At b p z) : ∀ k, k ≤ (turnsL b p).length → Inv b c all (upTo b p k) (42 - k) (foldK b c p z k) ∧ At b p (foldK b c p z k)
  | 0, _ => ⟨h, hp⟩
  | k + 1, hk => by
    obtain ⟨h1, h2⟩ := fold_inv hc h hp k (by omega)
    have hm : nth (turnsL b p) k ∈ turnsL b p := nth_mem (by omega)
    obtain ⟨h3, h4⟩ := relax_inv h1 h2 hm (hc.at hm)
    rw [foldK_succ (by omega)]
    refine ⟨?_, h4⟩
    have h5 : Inv b c all (fun r => if r = p then upTo b p k r ++ [nth (turnsL b p) k] else upTo b p k r) (42 - (k + 1 : Nat)) (relax c p (foldK b c p z k) (nth (turnsL b p) k)) := h3.weaken (by omega)
    refine h5.fins fun r _ u hu => ?_
    unfold upTo at hu ⊢
    by_cases e : r = p
    · rw [if_pos e] at hu; rw [if_pos e, if_pos e, ← take_nth (by omega)]; exact hu
    · rw [if_neg e] at hu; rw [if_neg e, if_neg e]; exact hu
def popped (x : St) (rest : List Pl) : St := { x with queue := mput x.queue x.now rest, left := x.left - 1 }
def marked (x : St) (p : Pl) : St := { x with done := mput x.done p true }
def later (x : St) : St := { x with queue := mdel x.queue x.now, now := x.now + 1 }
def doneB (x : St) (p : Pl) : Bool := (mget x.done p).getD false
theorem Inv.done_iff (h : Inv b c all F R x) (p : Pl) : (doneB x p = true ↔ mget x.done p = some true) ∧ (doneB x p = false ↔ mget x.done p = none) := by
  unfold doneB
  cases e : mget x.done p with
  | none => simp
  | some v => rw [h.dval p v e]; simp
theorem pop_inv {rest : List Pl} (h : Inv b c all F R x) (hq : rowAt x.queue x.now = p :: rest) (hd : ∀ w, mget x.ways p = some w → mget x.done p = none → False) : Inv b c all F R (popped x rest) where
  now0 := h.now0
  start := h.start
  keys := h.keys
  qkeys := mput_nodup _ _ _ h.qkeys
  dkeys := h.dkeys
  dval := h.dval
  via := h.via
  walk := h.walk
  fin := h.fin
  wait := fun q w hw hn => by
    obtain ⟨h1, h2⟩ := h.wait q w hw hn
    refine ⟨h1, ?_⟩
    show q ∈ rowAt (mput x.queue x.now rest) w.all
    rw [rowAt_put]
    by_cases e : x.now = w.all
    · rw [if_pos e]
      rw [← e, hq, List.mem_cons] at h2
      rcases h2 with h2 | h2
      · subst h2; exact (hd w hw hn).elim
      · exact h2
    · rw [if_neg e]; exact h2
  que := fun m q hq' => by
    have hq' : q ∈ rowAt (mput x.queue x.now rest) m := hq'
    rw [rowAt_put] at hq'
    refine h.que m q ?_
    by_cases e : x.now = m
    · rw [if_pos e] at hq'; rw [← e, hq]; exact List.mem_cons_of_mem _ hq'
    · rw [if_neg e] at hq'; exact hq'
  left := by
    show x.left - 1 = cntQ (mput x.queue x.now rest)
    rw [cntQ_put, hq, List.length_cons, h.left]; omega
  lim := by show x.left - 1 + R ≤ 1 + 42 * x.done.length; have := h.lim; omega
  no := h.no
  cap := h.cap
theorem pop_done {rest : List Pl} (h : Inv b c all F R x) (hq : rowAt x.queue x.now = p :: rest) (hd : doneB (popped x rest) p = true) : Inv b c all F R (popped x rest) :=
  pop_inv h hq fun w _ hn => by rw [((h.done_iff p).1.1 hd)] at hn; cases hn
theorem mark_inv {rest : List Pl} (h : Inv b c all (turnsL b) 0 x) (hq : rowAt x.queue x.now = p :: rest) (hd : doneB (popped x rest) p = false) (hm : all = false → madeP b p = false) :
    Inv b c all (upTo b p 0) 42 (marked (popped x rest) p) ∧ At b p (marked (popped x rest) p) := by
  have hn : mget x.done p = none := (h.done_iff p).2.1 hd
  obtain ⟨g1, g2, w, hw, g3⟩ := h.que x.now p (by rw [hq]; exact List.mem_cons_self)
  obtain ⟨g4, g5⟩ := h.wait p w hw hn
  have hlen : (mput x.done p true).length = x.done.length + 1 := mput_len _ _ _ hn
  have hget : ∀ r, mget (mput x.done p true) r = if p = r then some true else mget x.done r := fun r => mget_mput _ _ _ _
  refine ⟨{ now0 := h.now0, start := h.start, keys := h.keys, qkeys := mput_nodup _ _ _ h.qkeys, dkeys := mput_nodup _ _ _ h.dkeys, dval := fun r v hv => ?_, via := fun q w' hq' => ?_, walk := h.walk, fin := fun r hr => ?_, wait := fun q w' hw' hn' => ?_, que := fun m q hq' => ?_, left := ?_, lim := ?_, no := fun ha r hr => ?_, cap := fun q w' hq' => ?_ }, ⟨?_, ⟨w, hw, by show w.all = x.now; omega⟩, ?_⟩⟩
  · have hv : mget (mput x.done p true) r = some v := hv
    rw [hget] at hv
    by_cases e : p = r
    · rw [if_pos e] at hv; injection hv with hv; exact hv.symm
    · rw [if_neg e] at hv; exact h.dval r v hv
  · rcases h.via q w' hq' with h1 | ⟨u, w2, h1, h2, h3, h4, h5, h6⟩
    · exact .inl h1
    · exact .inr ⟨u, w2, h1, h2, h3, by show mget (mput x.done p true) w'.frm = some true; rw [hget]; split <;> first | rfl | exact h4, h5, h6⟩
  · have hr : mget (mput x.done p true) r = some true := hr
    rw [hget] at hr
    by_cases e : p = r
    · subst e; exact ⟨w, hw, g3, fun u hu => by unfold upTo at hu; rw [if_pos rfl] at hu; cases hu⟩
    · rw [if_neg e] at hr
      obtain ⟨w', e1, e2, e3⟩ := h.fin r hr
      exact ⟨w', e1, e2, fun u hu => by unfold upTo at hu; rw [if_neg (fun e' => e e'.symm)] at hu; exact e3 u hu⟩
  · have hn' : mget (mput x.done p true) q = none := hn'
    rw [hget] at hn'
    by_cases e : p = q
    · rw [if_pos e] at hn'; cases hn'
    · rw [if_neg e] at hn'
      obtain ⟨h1, h2⟩ := h.wait q w' hw' hn'
      refine ⟨h1, ?_⟩
      show q ∈ rowAt (mput x.queue x.now rest) w'.all
      rw [rowAt_put]
      by_cases e2 : x.now = w'.all
      · rw [if_pos e2]; rw [← e2, hq, List.mem_cons] at h2
        exact h2.resolve_left fun h => e h.symm
      · rw [if_neg e2]; exact h2
  · have hq' : q ∈ rowAt (mput x.queue x.now rest) m := hq'
    rw [rowAt_put] at hq'
    have : q ∈ rowAt x.queue m := by
      by_cases e : x.now = m
      · rw [if_pos e] at hq'; rw [← e, hq]; exact List.mem_cons_of_mem _ hq'
      · rw [if_neg e] at hq'; exact hq'
    obtain ⟨h1, h2, h3⟩ := h.que m q this
    exact ⟨h1, by show m ≤ 300 * ((mput x.done p true).length : Int); rw [hlen]; omega, h3⟩
  · show x.left - 1 = cntQ (mput x.queue x.now rest)
    rw [cntQ_put, hq, List.length_cons, h.left]; omega
  · show x.left - 1 + 42 ≤ 1 + 42 * ((mput x.done p true).length : Int)
    rw [hlen]; have := h.lim; omega
  · have hr : mget (mput x.done p true) r = some true := hr
    rw [hget] at hr
    by_cases e : p = r
    · subst e; exact hm ha
    · rw [if_neg e] at hr; exact h.no ha r hr
  · show w'.all ≤ 300 * ((mput x.done p true).length : Int)
    rw [hlen]; have := h.cap q w' hq'; omega
  · show mget (mput x.done p true) p = some true
    rw [hget, if_pos rfl]
  · show x.now + 300 ≤ 300 * ((mput x.done p true).length : Int)
    rw [hlen]; omega
theorem later_inv (h : Inv b c all F R x) (hq : rowAt x.queue x.now = []) : Inv b c all F R (later x) where
  now0 := by show 0 ≤ x.now + 1; have := h.now0; omega
  start := h.start
  keys := h.keys
  qkeys := mdel_nodup _ _ h.qkeys
  dkeys := h.dkeys
  dval := h.dval
  via := h.via
  walk := h.walk
  fin := fun p hp => by
    obtain ⟨w, h1, h2, h3⟩ := h.fin p hp
    exact ⟨w, h1, by show w.all ≤ x.now + 1; omega, h3⟩
  wait := fun q w hw hn => by
    obtain ⟨h1, h2⟩ := h.wait q w hw hn
    have hne : x.now ≠ w.all := fun e => by rw [← e, hq] at h2; cases h2
    refine ⟨by show x.now + 1 ≤ w.all; omega, ?_⟩
    show q ∈ rowAt (mdel x.queue x.now) w.all
    rw [rowAt_del _ _ _ h.qkeys, if_neg hne]; exact h2
  que := fun m q hq' => by
    have hq' : q ∈ rowAt (mdel x.queue x.now) m := hq'
    rw [rowAt_del _ _ _ h.qkeys] at hq'
    by_cases e : x.now = m
    · rw [if_pos e] at hq'; cases hq'
    · rw [if_neg e] at hq'
      obtain ⟨h1, h2⟩ := h.que m q hq'
      exact ⟨by show x.now + 1 ≤ m; omega, h2⟩
  left := by show x.left = cntQ (mdel x.queue x.now); rw [cntQ_del, hq, h.left]; simp
  lim := h.lim
  no := h.no
  cap := h.cap
def st0 (b : Barn) : St := ⟨[(firstP b, way0)], [(0, [firstP b])], 1, [], 0⟩
theorem inv0 (b : Barn) (c : Tur → Int) (all : Bool) : Inv b c all (turnsL b) 0 (st0 b) where
  now0 := Int.le_refl _
  start := by simp [st0, mget]
  keys := by simp [st0]
  qkeys := by simp [st0]
  dkeys := by simp [st0]
  dval := fun p v h => by cases h
  via := fun q w h => by
    simp only [st0, mget] at h
    by_cases e : firstP b = q
    · exact .inl e.symm
    · rw [if_neg e] at h; cases h
  walk := fun q w h => by
    simp only [st0, mget] at h
    by_cases e : firstP b = q
    · rw [if_pos e] at h; injection h with h; subst h; exact ⟨[], by rw [← e]; rfl, rfl⟩
    · rw [if_neg e] at h; cases h
  fin := fun p h => by cases h
  wait := fun q w h _ => by
    simp only [st0, mget] at h
    by_cases e : firstP b = q
    · rw [if_pos e] at h; injection h with h; subst h; exact ⟨Int.le_refl _, by simp [st0, rowAt, mget, way0, e]⟩
    · rw [if_neg e] at h; cases h
  que := fun m q h => by
    simp only [st0, rowAt, mget] at h
    by_cases e : (0 : Int) = m
    · subst e; rw [if_pos rfl] at h
      rw [List.mem_singleton.1 h]
      exact ⟨Int.le_refl _, by simp [st0], way0, by simp [st0, mget], Int.le_refl _⟩
    · rw [if_neg e] at h; cases h
  left := rfl
  lim := by simp [st0]
  no := fun _ p h => by cases h
  cap := fun q w h => by
    simp only [st0, mget] at h
    by_cases e : firstP b = q
    · rw [if_pos e] at h; injection h with h; subst h; exact Int.le_refl _
    · rw [if_neg e] at h; cases h
def stepS (b : Barn) (c : Tur → Int) (all : Bool) (x : St) : St ⊕ Found :=
  if x.left ≤ 0 then .inr ⟨x.ways, pl0, false⟩ else
  match rowAt x.queue x.now with
  | [] => .inl (later x)
  | p :: rest =>
    if doneB (popped x rest) p = true then .inl (popped x rest) else
    if (!all && madeP b p) = true then .inr ⟨x.ways, p, true⟩ else .inl (foldK b c p (marked (popped x rest) p) (turnsL b p).length)
def runN (b : Barn) (c : Tur → Int) (all : Bool) : Nat → St → Option Found
  | 0, _ => none
  | n + 1, x => match stepS b c all x with
    | .inr f => some f
    | .inl y => runN b c all n y
def Ends (b : Barn) (c : Tur → Int) (all : Bool) (x : St) (f : Found) : Prop := ∃ n, runN b c all n x = some f
theorem runN_det : ∀ {n m : Nat} {x : St} {f f' : Found}, runN b c all n x = some f → runN b c all m x = some f' → f = f'
  | 0, _, _, _, _, h, _ => by cases h
  | _, 0, _, _, _, _, h => by cases h
  | n + 1, m + 1, x, f, f', h, h' => by
    unfold runN at h h'
    cases e : stepS b c all x with
    | inr g => rw [e] at h h'; injection h with h; injection h' with h'; rw [← h, ← h']
    | inl y => rw [e] at h h'; exact runN_det h h'
theorem Ends.det {f f' : Found} (h : Ends b c all x f) (h' : Ends b c all x f') : f = f' := let ⟨_, h⟩ := h; let ⟨_, h'⟩ := h'; runN_det h h'
theorem Ends.step {y : St} {f : Found} (e : stepS b c all x = .inl y) (h : Ends b c all y f) : Ends b c all x f := by
  obtain ⟨n, h⟩ := h
  exact ⟨n + 1, by unfold runN; rw [e]; exact h⟩
theorem Ends.stop {f : Found} (e : stepS b c all x = .inr f) : Ends b c all x f := ⟨1, by unfold runN; rw [e]⟩
open Classical in
noncomputable def searchM (b : Barn) (c : Tur → Int) (all : Bool) : Found := if h : ∃ f, Ends b c all (st0 b) f then h.choose else default
theorem searchM_eq {f : Found} (h : Ends b c all (st0 b) f) : searchM b c all = f := by
  unfold searchM
  rw [dif_pos ⟨f, h⟩]
  exact (Exists.choose_spec (⟨f, h⟩ : ∃ f, Ends b c all (st0 b) f)).det h
theorem step_end (h : x.left ≤ 0) : stepS b c all x = .inr ⟨x.ways, pl0, false⟩ := if_pos h
theorem step_later (h : 0 < x.left) (hq : rowAt x.queue x.now = []) : stepS b c all x = .inl (later x) := by
  unfold stepS; rw [if_neg (by omega), hq]
theorem step_old {rest : List Pl} (h : 0 < x.left) (hq : rowAt x.queue x.now = p :: rest) (hd : doneB (popped x rest) p = true) : stepS b c all x = .inl (popped x rest) := by
  unfold stepS; rw [if_neg (by omega), hq]; exact if_pos hd
theorem step_found {rest : List Pl} (h : 0 < x.left) (hq : rowAt x.queue x.now = p :: rest) (hd : doneB (popped x rest) p = false) (hm : (!all && madeP b p) = true) : stepS b c all x = .inr ⟨x.ways, p, true⟩ := by
  unfold stepS; rw [if_neg (by omega), hq]
  show (if doneB (popped x rest) p = true then _ else _) = _
  rw [if_neg (by rw [hd]; decide), if_pos hm]
theorem step_new {rest : List Pl} (h : 0 < x.left) (hq : rowAt x.queue x.now = p :: rest) (hd : doneB (popped x rest) p = false) (hm : (!all && madeP b p) = false) : stepS b c all x = .inl (foldK b c p (marked (popped x rest) p) (turnsL b p).length) := by
  unfold stepS; rw [if_neg (by omega), hq]
  show (if doneB (popped x rest) p = true then _ else _) = _
  rw [if_neg (by rw [hd]; decide), if_neg (by rw [hm]; decide)]
theorem pos_of_row {rest : List Pl} (h : Inv b c all F R x) (hq : rowAt x.queue x.now = p :: rest) : 0 < x.left := by
  have := cntQ_row x.queue x.now
  rw [hq, List.length_cons, ← h.left] at this; omega
noncomputable def muS (x : St) : Nat := (placesN - x.done.length) * 43 + (300 * placesN - x.now).toNat + x.left.toNat
theorem Inv.few (h : Inv b c all F R x) (hr : b.Right) : x.done.length ≤ placesN := by
  have := few_places h.dkeys fun p hp => by
    obtain ⟨v, hv⟩ := mem_mget hp
    rw [h.dval p v hv] at hv
    obtain ⟨w, hw, _⟩ := h.fin p hv
    obtain ⟨l, hl, _⟩ := h.walk p w hw
    exact goP_bins hr l (first_bins hr) hl
  rwa [List.length_map] at this
theorem Inv.far (h : Inv b c all F R x) (hr : b.Right) (hl : 0 < x.left) (hq : rowAt x.queue x.now = []) : x.now < 300 * placesN := by
  obtain ⟨m, hm⟩ := cntQ_pos x.queue (by rw [← h.left]; exact hl) h.qkeys
  have h1 := h.few hr
  cases e : rowAt x.queue m with
  | nil => exact absurd e hm
  | cons q r =>
    obtain ⟨h2, h3, _⟩ := h.que m q (by rw [e]; exact List.mem_cons_self)
    have : x.now ≠ m := fun e' => by rw [← e', hq] at e; cases e
    omega
theorem mu_later (h : Inv b c all F R x) (hr : b.Right) (hl : 0 < x.left) (hq : rowAt x.queue x.now = []) : muS (later x) < muS x := by
  have h1 := h.far hr hl hq
  have h2 := h.now0
  show (placesN - x.done.length) * 43 + (300 * placesN - (x.now + 1)).toNat + x.left.toNat < (placesN - x.done.length) * 43 + (300 * placesN - x.now).toNat + x.left.toNat
  omega
theorem mu_later_le (x : St) : muS (later x) ≤ muS x := by
  show (placesN - x.done.length) * 43 + (300 * placesN - (x.now + 1)).toNat + x.left.toNat ≤ (placesN - x.done.length) * 43 + (300 * placesN - x.now).toNat + x.left.toNat
  omega
theorem mu_old {rest : List Pl} (h : Inv b c all F R x) (hq : rowAt x.queue x.now = p :: rest) : muS (popped x rest) < muS x := by
  have := pos_of_row h hq
  show (placesN - x.done.length) * 43 + (300 * placesN - x.now).toNat + (x.left - 1).toNat < (placesN - x.done.length) * 43 + (300 * placesN - x.now).toNat + x.left.toNat
  omega
theorem relax_left (c : Tur → Int) (p : Pl) (x : St) (t : Tur) : (relax c p x t).left ≤ x.left + 1 := by
  unfold relax; split
  · omega
  · exact Int.le_refl _
theorem foldK_left (z : St) : ∀ k, (foldK b c p z k).left ≤ z.left + k := by
  intro k
  have : ∀ (l : List Tur) (z : St), (l.foldl (relax c p) z).left ≤ z.left + l.length := by
    intro l
    induction l with
    | nil => intro z; simp
    | cons t l ih =>
      intro z
      have h1 := ih (relax c p z t)
      have h2 := relax_left c p z t
      rw [List.foldl_cons, List.length_cons]; omega
  have h1 := this ((turnsL b p).take k) z
  have h2 := List.length_take_le k (turnsL b p)
  unfold foldK; omega
theorem mu_new {rest : List Pl} (h : Inv b c all (turnsL b) 0 x) (hr : b.Right) (hq : rowAt x.queue x.now = p :: rest) (hd : doneB (popped x rest) p = false) (hi : Inv b c all (upTo b p 0) 42 (marked (popped x rest) p)) : muS (foldK b c p (marked (popped x rest) p) (turnsL b p).length) < muS x := by
  have h1 := pos_of_row h hq
  have h2 := foldK_left (b := b) (c := c) (p := p) (marked (popped x rest) p) (turnsL b p).length
  have h3 := turnsL_len hr p
  have h4 := hi.few hr
  have h5 : (mput x.done p true).length = x.done.length + 1 := mput_len _ _ _ ((h.done_iff p).2.1 hd)
  unfold muS
  rw [foldK_done, foldK_now]
  have h4 : (mput x.done p true).length ≤ placesN := h4
  have h2 : (foldK b c p (marked (popped x rest) p) (turnsL b p).length).left ≤ x.left - 1 + (turnsL b p).length := h2
  show (placesN - (mput x.done p true).length) * 43 + (300 * placesN - x.now).toNat + _ < _
  rw [h5] at h4 ⊢
  omega
theorem new_inv {rest : List Pl} (hr : b.Right) (hc : CostOk b c) (h : Inv b c all (turnsL b) 0 x) (hq : rowAt x.queue x.now = p :: rest) (hd : doneB (popped x rest) p = false) (hm : (!all && madeP b p) = false) : Inv b c all (turnsL b) 0 (foldK b c p (marked (popped x rest) p) (turnsL b p).length) := by
  obtain ⟨h1, h2⟩ := mark_inv h hq hd (fun ha => by rw [ha] at hm; simpa using hm)
  obtain ⟨h3, _⟩ := fold_inv hc h1 h2 _ (Nat.le_refl _)
  have := turnsL_len hr p
  refine (h3.weaken (R' := 0) (by omega)).fins fun r _ u hu => ?_
  unfold upTo
  by_cases e : r = p
  · rw [if_pos e, List.take_length, ← e]; exact hu
  · rw [if_neg e]; exact hu
structure Found.Spec (b : Barn) (c : Tur → Int) (all : Bool) (f : Found) : Prop where
  start : mget f.ways (firstP b) = some way0
  keys : (f.ways.map Prod.fst).Nodup
  via : ∀ q w, mget f.ways q = some w → q = firstP b ∨ ∃ t w', w.byT = [t] ∧ t ∈ turnsL b w.frm ∧ q = moved w.frm t ∧ mget f.ways w.frm = some w' ∧ w.all = w'.all + c t
  walk : ∀ q w, mget f.ways q = some w → ∃ l, goP b (firstP b) l = some q ∧ costL c l = w.all
  yes : f.is = true → madeP b f.last = true ∧ ∃ w, mget f.ways f.last = some w ∧ ∀ l q, goP b (firstP b) l = some q → madeP b q = true → w.all ≤ costL c l
  no : f.is = false → all = false → ∀ l q, goP b (firstP b) l = some q → madeP b q = false
  cap : ∀ q w, mget f.ways q = some w → w.all ≤ 300 * placesN
  whole : all = true → f.is = false ∧ ∀ l q, goP b (firstP b) l = some q → ∃ w, mget f.ways q = some w
theorem cost_pos (hc : CostOk b c) : ∀ (l : List Tur) {p q : Pl}, goP b p l = some q → 0 ≤ costL c l
  | [], _, _, _ => Int.le_refl _
  | t :: l, p, q, h => by
    have h : (if t ∈ turnsL b p then goP b (moved p t) l else none) = some q := h
    by_cases ht : t ∈ turnsL b p
    · rw [if_pos ht] at h
      have h1 := cost_pos hc l h
      have h2 := hc.at ht
      show 0 ≤ costL c ([t] ++ l)
      rw [costL_append, costL_one]; omega
    · rw [if_neg ht] at h; cases h
theorem Inv.near (hc : CostOk b c) (h : Inv b c all (turnsL b) 0 x) : ∀ (l : List Tur) (q : Pl), goP b (firstP b) l = some q → costL c l < x.now → mget x.done q = some true ∧ ∃ w, mget x.ways q = some w ∧ w.all ≤ costL c l := by
  have key : ∀ q w k, mget x.ways q = some w → w.all ≤ k → k < x.now → mget x.done q = some true := fun q w k hw h1 h2 => by
    cases e : mget x.done q with
    | none => have := (h.wait q w hw e).1; omega
    | some v => rw [h.dval q v e]
  refine snoc_ind (fun q e hl => ?_) fun l t ih q e hl => ?_
  · injection e with e; subst e
    exact ⟨key _ _ _ h.start (Int.le_refl _) hl, _, h.start, Int.le_refl _⟩
  · obtain ⟨r, e1, e2, e3⟩ := goP_snoc_inv e
    rw [costL_append, costL_one] at hl ⊢
    have := hc.at e2
    obtain ⟨h1, w, h2, h3⟩ := ih r e1 (by omega)
    obtain ⟨w0, g1, g2, g3⟩ := h.fin r h1
    rw [h2] at g1; injection g1 with g1; subst g1
    obtain ⟨w', g4, g5⟩ := g3 t e2
    subst e3
    exact ⟨key _ _ _ g4 (by omega) hl, w', g4, by omega⟩
theorem Inv.closed (h : Inv b c all (turnsL b) 0 x) (hl : x.left ≤ 0) : ∀ (l : List Tur) (q : Pl), goP b (firstP b) l = some q → mget x.done q = some true := by
  have hz : ∀ m, rowAt x.queue m = [] := fun m => by
    have := cntQ_row x.queue m
    rw [← h.left] at this
    exact List.length_eq_zero_iff.1 (by omega)
  have key : ∀ q w, mget x.ways q = some w → mget x.done q = some true := fun q w hw => by
    cases e : mget x.done q with
    | none => have := (h.wait q w hw e).2; rw [hz] at this; cases this
    | some v => rw [h.dval q v e]
  refine snoc_ind (fun q e => ?_) fun l t ih q e => ?_
  · injection e with e; subst e; exact key _ _ h.start
  · obtain ⟨r, e1, e2, e3⟩ := goP_snoc_inv e
    obtain ⟨w, h1, h2, h3⟩ := h.fin r (ih r e1)
    obtain ⟨w', h4, _⟩ := h3 t e2
    subst e3; exact key _ _ h4
theorem spec_end (hr : b.Right) (h : Inv b c all (turnsL b) 0 x) (hl : x.left ≤ 0) : Found.Spec b c all ⟨x.ways, pl0, false⟩ where
  start := h.start
  keys := h.keys
  via := fun q w hw => (h.via q w hw).imp id fun ⟨t, w', h1, h2, h3, _, h5, h6⟩ => ⟨t, w', h1, h2, h3, h5, h6⟩
  walk := h.walk
  yes := fun e => by cases e
  no := fun _ ha l q e => h.no ha q (h.closed hl l q e)
  cap := fun q w hw => by have h1 := h.cap q w hw; have h2 := h.few hr; omega
  whole := fun _ => ⟨rfl, fun l q e => let ⟨w, h1, _⟩ := h.fin q (h.closed hl l q e); ⟨w, h1⟩⟩
theorem spec_found {rest : List Pl} (hr : b.Right) (hc : CostOk b c) (h : Inv b c all (turnsL b) 0 x) (hq : rowAt x.queue x.now = p :: rest) (hd : doneB (popped x rest) p = false) (hm : (!all && madeP b p) = true) : Found.Spec b c all ⟨x.ways, p, true⟩ := by
  simp only [Bool.and_eq_true, Bool.not_eq_true'] at hm
  have hn : mget x.done p = none := (h.done_iff p).2.1 hd
  obtain ⟨g1, g2, w, hw, g3⟩ := h.que x.now p (by rw [hq]; exact List.mem_cons_self)
  refine ⟨h.start, h.keys, fun q w hw => (h.via q w hw).imp id fun ⟨t, w', h1, h2, h3, _, h5, h6⟩ => ⟨t, w', h1, h2, h3, h5, h6⟩, h.walk, fun _ => ⟨hm.2, w, hw, fun l q e hq => ?_⟩, (fun e => by cases e), (fun q w hw => by have h1 := h.cap q w hw; have h2 := h.few hr; omega), (fun e => by rw [hm.1] at e; cases e)⟩
  rcases Int.lt_or_le (costL c l) x.now with h1 | h1
  · have := h.no hm.1 q (h.near hc l q e h1).1
    rw [hq] at this; cases this
  · omega
theorem search_ends (hr : b.Right) (hc : CostOk b c) : ∀ (n : Nat) (x : St), muS x ≤ n → Inv b c all (turnsL b) 0 x → ∃ f, Ends b c all x f ∧ f.Spec b c all := by
  intro n
  induction n with
  | zero =>
    intro x hx h
    have hl : x.left ≤ 0 := by unfold muS at hx; omega
    exact ⟨_, .stop (step_end hl), spec_end hr h hl⟩
  | succ n ih =>
    intro x hx h
    rcases Int.lt_or_le 0 x.left with hl | hl
    · cases hq : rowAt x.queue x.now with
      | nil =>
        obtain ⟨f, h1, h2⟩ := ih (later x) (by have := mu_later h hr hl hq; omega) (later_inv h hq)
        exact ⟨f, h1.step (step_later hl hq), h2⟩
      | cons p rest =>
        cases hd : doneB (popped x rest) p with
        | true =>
          obtain ⟨f, h1, h2⟩ := ih _ (by have := mu_old h hq; omega) (pop_done h hq hd)
          exact ⟨f, h1.step (step_old hl hq hd), h2⟩
        | false =>
          cases hm : !all && madeP b p with
          | true => exact ⟨_, .stop (step_found hl hq hd hm), spec_found hr hc h hq hd hm⟩
          | false =>
            obtain ⟨f, h1, h2⟩ := ih _ (by have := mu_new h hr hq hd (mark_inv h hq hd (fun ha => by rw [ha] at hm; simpa using hm)).1; omega) (new_inv hr hc h hq hd hm)
            exact ⟨f, h1.step (step_new hl hq hd hm), h2⟩
    · exact ⟨_, .stop (step_end hl), spec_end hr h hl⟩
theorem search_spec (hr : b.Right) (hc : CostOk b c) (all : Bool) : (searchM b c all).Spec b c all ∧ Ends b c all (st0 b) (searchM b c all) := by
  obtain ⟨f, h1, h2⟩ := search_ends (all := all) hr hc _ (st0 b) (Nat.le_refl _) (inv0 b c all)
  rw [searchM_eq h1]; exact ⟨h2, h1⟩
def SameS (b : Barn) (c : Tur → Int) (all : Bool) (x : St) : Prop := ∀ f, Ends b c all x f → searchM b c all = f
theorem same0 : SameS b c all (st0 b) := fun _ h => searchM_eq h
theorem SameS.step {y : St} (h : SameS b c all x) (e : stepS b c all x = .inl y) : SameS b c all y := fun f hf => h f (hf.step e)
theorem SameS.stop {f : Found} (h : SameS b c all x) (e : stepS b c all x = .inr f) : searchM b c all = f := h f (.stop e)
end Go.Proofs.YtpnndljmhpepgaaGreat

namespace Go.T
open Go Go.RowKit
section
variable {P : Program} {fr : Fr} {ops : Array Oper} {A : As} {rest : List Oper} {K : As → List (As × Fx) → Prop} {t mt : TypeId} {p : String} {e : Array Edge} {d : Option Nat} {x y z : Operand}
theorem r_insert (h : TOps P fr ops (⟨d, .mapUpdate mt x y z, t, p, e, none⟩ :: rest) A K) : TOps P fr ops (⟨d, .insert mt x y z, t, p, e, none⟩ :: rest) A K := by
  obtain ⟨f, ⟨h1, h2, h3, h4, h5⟩, hr⟩ := h
  refine ⟨f, ⟨h1, h2, h3, h4, fun a w M wf hs hrd htg => ?_⟩, hr⟩
  have := h5 a w M wf hs hrd htg
  rw [if_pos (by simp [Region.wanted])] at this ⊢
  obtain ⟨_, g2⟩ := this
  refine ⟨fun f _ => fr.kd.fn_true f, ?_⟩
  rw [Oper.semAt_eq _ _ _ (by simp)] at g2 ⊢
  have e1 : execOp a.eval ⟨d, .insert mt x y z, t, p, e, none⟩ = execOp a.eval ⟨d, .mapUpdate mt x y z, t, p, e, none⟩ := rfl
  rw [e1]
  generalize (execOp a.eval ⟨d, .mapUpdate mt x y z, t, p, e, none⟩).run P w = r at *
  cases r with
  | ok n w' => cases n <;> exact g2
  | halt x w' => cases x <;> exact g2
end
section
variable {P : Program} {fr : Fr} {ops : Array Oper} {A : As} {rest : List Oper} {K : As → List (As × Fx) → Prop} {d : Nat} {t mt kt et : TypeId} {p : String} {e : Array Edge}
variable {κ β : Type} [DecidableEq κ]
theorem r_mapUpdateS {x y z : Operand} {tg : Nat} {kty vty : Ty} {k : κ} {v : β} (KK : KeyK P kt κ) {V : VT β} {kvs : List (κ × β)} (hx : A.op fr x = .mp tg) (hc : A.tag tg = some (.mp KK.enc V kvs)) (h1 : Tag1 tg) (hy : A.op fr y = kty) (hk : KeyAt kty (KK.enc k)) (hz : A.op fr z = vty) (hv : vty.Sub (V.ty v)) (hm : mapOf P mt = some (kt, et))
    (h : TOps P fr ops rest (A.after { d := none, S := [tg], sets := [(tg, .mp KK.enc V (mput kvs k v))], rs := opR x ++ (opR y ++ opR z), rt := [tg] }) fun A' l' => K A' ((A, { d := none, S := [tg], sets := [(tg, .mp KK.enc V (mput kvs k v))], rs := opR x ++ (opR y ++ opR z), rt := [tg] }) :: l')) :
    TOps P fr ops (⟨none, .mapUpdate mt x y z, t, p, e, none⟩ :: rest) A K := by
  refine ⟨_, ⟨rfl, (fun x hx => .inl (by rw [List.mem_singleton.1 hx]; exact List.mem_singleton.2 rfl)), (fun u hu => by rw [List.mem_singleton.1 hu]; exact h1.1), (by simp), fun a w M wf _ hrd htg => ?_⟩, h⟩
  rw [if_pos (by simp [Region.wanted])]
  obtain ⟨b, e1, e2, es, clock, h3, h4, h5⟩ := mp_at hx hc h1 wf (fun c hc => List.mem_append_left _ hc) hrd htg
  have hyd := op_den (fun c hc => List.mem_append_right (opR x) (List.mem_append_left (opR z) hc)) hrd
  have hzd := op_den (fun c hc => List.mem_append_right (opR x) (List.mem_append_right (opR y) hc)) hrd
  rw [hy] at hyd
  rw [hz] at hzd
  have hzd := hv _ _ _ hzd
  have hu := mapOf_und hm
  have hblt : b < w.heap.size := wf.lt b _ e2
  -- whatever is put there
  have fin : ∀ (es' : Array MapEntry) (clock' : Nat), es'.toList.map (·.key) = (mput kvs k v).map (fun x => KK.enc x.1) → dens w M ((mput kvs k v).map fun x => V.ty x.2) (es'.toList.map (·.val)) →
      (Instr.mapUpdate mt (.map (some b)) (KK.enc k) (a.eval z)).run P w = .ok () { w with heap := w.heap.setIfInBounds b (.map es' clock') } →
      Oper.wpIn fr.kd.fence 0 P ⟨none, .mapUpdate mt x y z, t, p, e, none⟩ a w (fun a' w' => ∃ v', a' = a.put none v' ∧ Fx.left { d := none, S := [tg], sets := [(tg, .mp KK.enc V (mput kvs k v))], rs := opR x ++ (opR y ++ opR z), rt := [tg] } w M w' v') (fun _ _ _ => False) := by
    intro es' clock' hk' hd' hrun
    have hr : (execOp a.eval ⟨none, .mapUpdate mt x y z, t, p, e, none⟩).run P w = .ok .skip { w with heap := w.heap.setIfInBounds b (.map es' clock') } := by
      simp only [execOp, e1, hk _ _ _ hyd]
      simp [hrun]
    refine wp_in_skip hr ?_
    have le : Le (· ∈ [tg]) (· ∈ ([] : List Nat)) w M { w with heap := w.heap.setIfInBounds b (.map es' clock') } M := by
      refine ⟨by simp, rfl, rfl, rfl, fun b2 hlt hm2 => ⟨hm2, ?_⟩, fun b2 u hm2 _ => ⟨hm2, fun hs => ?_⟩⟩
      · have : b ≠ b2 := fun h => by subst h; rw [e2] at hm2; cases hm2
        simp [Array.getElem?_setIfInBounds, this]
      · have : b ≠ b2 := fun h => by subst h; rw [e2] at hm2; injection hm2 with hm2; exact hs (by simp [hm2])
        simp [Array.getElem?_setIfInBounds, this]
    refine ⟨undef, rfl, M, ⟨fun b2 u h => by simpa using wf.lt b2 u h, wf.inj⟩, le, trivial, fun x hx => ?_⟩
    rw [List.mem_singleton.1 hx]
    refine ⟨b, e2, es', clock', by simp [hblt], hk', ?_⟩
    refine dens_mono le (fun _ _ => by simp) (fun u hu => ?_) hd'
    simp only [cdepsOf, List.mem_flatMap, List.mem_map] at hu
    obtain ⟨t', ⟨x', _, rfl⟩, hu⟩ := hu
    rw [(V.nodeps x'.2).2] at hu; cases hu
  rcases run_find KK h4 h5 k with ⟨i, v0, en, hi, hg, hen, hkey, hd, hf⟩ | ⟨hi, hg, hf⟩
  · obtain ⟨v1, hv1, _, hput⟩ := mget_pos kvs k i hi
    have hil : i < es.size := (Array.getElem?_eq_some_iff.1 hen).1
    refine fin (es.modify i fun e => { e with key := KK.enc k, val := a.eval z }) clock ?_ ?_ ?_
    · rw [hput, List.map_set]
      have : (es.modify i fun e => { e with key := KK.enc k, val := a.eval z }).toList = es.toList.set i { en with key := KK.enc k, val := a.eval z } := by
        rw [Array.toList_modify, List.modify_eq_set, Array.getElem?_toList, hen]; rfl
      rw [this, List.map_set, h4]
    · rw [hput, List.map_set]
      have : (es.modify i fun e => { e with key := KK.enc k, val := a.eval z }).toList = es.toList.set i { en with key := KK.enc k, val := a.eval z } := by
        rw [Array.toList_modify, List.modify_eq_set, Array.getElem?_toList, hen]; rfl
      rw [this, List.map_set]
      exact dens_set h5 hzd
    · simp [Instr.mapUpdate, underlying, hu, getObj, setObj, Sem.run, h3, KK.check, hf, hen, hkey, Instr.keyThatStays, KK.same]
  · obtain ⟨_, hput⟩ := mget_none kvs k hi
    refine fin (es.push { key := KK.enc k, val := a.eval z, born := clock }) (clock + 1) ?_ ?_ ?_
    · rw [hput]; simp [h4]
    · rw [hput]; simp only [Array.toList_push, List.map_append, List.map_cons, List.map_nil]
      exact dens_append h5 ⟨hzd, trivial⟩
    · simp [Instr.mapUpdate, underlying, hu, getObj, setObj, Sem.run, h3, KK.check, hf]
end
section
variable {A : As} {κ β : Type} [DecidableEq κ]
theorem pubTy_mp {enc : κ → Value} {V : VT β} {kvs : List (κ × β)} {tg : Nat} (hc : A.tag tg = some (.mp enc V kvs)) (h1 : Tag1 tg) : PubTy A tg (.mp tg) (.pm enc V kvs) := by
  intro w M v wf ht hv
  obtain ⟨b, e1, e2⟩ := hv
  obtain ⟨b', h2, h3⟩ := ht _ (tag_mem hc)
  obtain ⟨u, rfl⟩ : ∃ u, tg = u + 1 := ⟨tg - 1, by omega⟩
  have : b = b' := wf.inj b b' u (by omega) e2 h2
  subst this
  exact ⟨b, e1, by simp [pubTag, e2], wf.lt b _ e2, mapAt_mono V.nodeps (pubTag_le (tg := u + 1)) rfl h3⟩
end
section
variable {P : Program} {fr : Fr} {ops : Array Oper} {A : As} {rest : List Oper} {K : As → List (As × Fx) → Prop} {t ty' : TypeId} {p : String} {e : Array Edge} [T : Tab P]
theorem r_storeO {x y : Operand} {tg off Tb : Nat} {l m : List Ty} {ti : TI} {l' : List Ty} (hx : A.op fr x = .ptr tg off) (hc : A.tag tg = some (.cells Tb l)) (h1 : Tag1 tg) (hT : T.tab[ty']? = some ti) (hy : A.op fr y = .agg m) (hsz : ti.size = m.length) (hoff : off + m.length ≤ l.length) (ho : m.all Ty.one = true) (hdl : disj (cdepsOf l) [tg] = true) (hdt : disj (cdepsOf m) [tg] = true) (hl : l.take off ++ m ++ l.drop (off + m.length) = l')
    (h : TOps P fr ops rest (A.after { d := none, S := [tg], sets := [(tg, .cells Tb l')], rs := opR x ++ opR y, rt := [tg] }) fun A' l'' => K A' ((A, { d := none, S := [tg], sets := [(tg, .cells Tb l')], rs := opR x ++ opR y, rt := [tg] }) :: l'')) :
    TOps P fr ops (⟨none, .store ty' x y, t, p, e, none⟩ :: rest) A K := by
  refine ⟨_, opT_unit rfl rfl rfl (by simp) (by simpa using h1.1) (by simp) fun a w M wf hr ht => ?_, h⟩
  obtain ⟨hdx, hdy⟩ := op2 hr
  rw [hx] at hdx; rw [hy] at hdy
  obtain ⟨b, hb, ex⟩ := hdx
  obtain ⟨vs, ey, hvs⟩ := hdy
  obtain ⟨b', cs, hb', hh, hd⟩ := ht _ (tag_mem hc) (by simp)
  obtain ⟨u, rfl⟩ : ∃ u, tg = u + 1 := ⟨tg - 1, by omega⟩
  have := wf.inj b b' u (by omega) hb hb'
  subst this
  have hl1 := dens_len hd
  have hl2 := dens_len hvs
  simp only [Array.length_toList] at hl1 hl2
  have hones : ∀ v ∈ vs.toList, v.oneCell' = true := fun v hv => by
    obtain ⟨i, hi, hvi⟩ := List.getElem_of_mem hv
    have hi' : i < vs.size := by simpa using hi
    have hlt : i < m.length := by omega
    obtain ⟨u', hu', hdu⟩ := dens_get hvs i m[i] (List.getElem?_eq_getElem hlt)
    rw [List.getElem?_eq_getElem hi, hvi] at hu'
    injection hu' with hu'
    subst hu'
    exact (m[i]).isOne (List.all_eq_true.1 ho _ (List.getElem_mem hlt)) hdu
  have hst := run_storeCells_at (P := P) b off Tb vs.toList 0 cs w hh (by simp; omega) hones
  rw [setRow_set _ hh] at hst
  obtain ⟨h1', h2', h3'⟩ := store_le (cs' := (cs.toList.take (off + 0) ++ vs.toList ++ cs.toList.drop (off + 0 + vs.toList.length)).toArray) (Tb := Tb) wf hb _ rfl
  refine ⟨_, ?_, M, h1', h2', trivial, ?_⟩
  · have hvz : vs.size = ti.size := by omega
    simp only [execOp, Instr.storeAt, Instr.sureAddr, ex, ey, storeVar, Value.cells, run_sizeOf' hT, Sem.run_bind, Sem.run_pure, Result.andThen_ok, hvz, hst]
    simp [hst]
  · intro z hz
    simp only [List.mem_singleton] at hz
    subst hz
    refine ⟨b, _, hb, h3', ?_⟩
    subst hl
    rw [List.toList_toArray, show off + m.length = off + 0 + vs.toList.length by simp; omega]
    have g1 := dens_mono h2' (by intro _ _ h; cases h) (disj_spec hdl) hd
    have g2 := dens_mono h2' (by intro _ _ h; cases h) (disj_spec hdt) hvs
    exact dens_append (dens_append (dens_take (off + 0) g1) g2) (dens_drop _ g1)
end
section
variable {P : Program} {fr : Fr} {ops : Array Oper} {A : As} {rest : List Oper} {K : As → List (As × Fx) → Prop} {d : Nat} {t ty' : TypeId} {p : String} {e : Array Edge} [T : Tab P]
theorem r_load_vecE {α : Type} [Inhabited α] {E : El α} {xs : List α} {x : Operand} {tg off Tb : Nat} {ti : TI} (i : Nat) (hx : A.op fr x = .ptr tg off) (he : off = i * E.size) (hc : A.tag tg = some (.vec E Tb xs)) (h1 : Tag1 tg) (hT : T.tab[ty']? = some ti) (ha : ti.k.agg = true) (hsz : ti.size = E.size) (hi : i < xs.length)
    (h : TOps P fr ops rest (A.set d (.agg (E.tys (nth xs i)))) fun A' l => K A' ((A, { d := some d, ty := .agg (E.tys (nth xs i)), rs := opR x, rt := [tg] }) :: l)) : TOps P fr ops (⟨some d, .load ty' x, t, p, e, none⟩ :: rest) A K :=
  tops_pure (opT_pure rfl rfl fun a w M wf hr ht => by
    have := op_den (x := x) (fun _ h => h) hr
    rw [hx] at this
    obtain ⟨b, hb, e⟩ := this
    obtain ⟨cs, g1, g2, g3⟩ := cells_take (l := E.tys (nth xs i)) (b := b) (q := off) (off := 0) (n := ti.size) (m := E.tys (nth xs i)) (fun j t hj => vec_cell wf h1 hb (vec_den hc w M ht) (by
      rw [he]; exact flat_elem E xs hi j t hj)) (by rw [List.drop_zero, hsz, ← E.len (nth xs i), List.take_length]) (by rw [E.len, hsz])
    exact ⟨.agg cs.toArray, by simp only [execOp, e]; rw [Sem.run_bind, run_loadN (off := off) hT ha g1 (by simpa using g3)]; rfl, cs.toArray, rfl, by simpa using g2⟩) h
end
section
variable {P : Program} {A : As} {fn : Func} {n : Nat} {w0 : World} {M0 : Tags} [T : Tab P]
theorem i_rcell3 {tm ty tg Tb t2 t3 : Nat} {l : List Ty} {ti : TI} {r1 r2 r3 : Ty} (hr : fn.results = #[.cell tm ty, .tmp t2, .tmp t3]) (ht : Nat.blt tm n = true) (h2 : Nat.blt t2 n = true) (h3 : Nat.blt t3 n = true) (hx : A.slots tm = .ptr tg 0) (hc : A.tag tg = some (.cells Tb l)) (h1 : Tag1 tg) (hT : T.tab[ty]? = some ti) (ha : ti.k.agg = true) (hl : l.length = ti.size) (hs : RetSub (.agg l) r1) (hs2 : RetSub (A.slots t2) r2) (hs3 : RetSub (A.slots t3) r3) :
    Into ⟨n, w0, M0, [], .plain⟩ A (bodyPost P fn (retPost w0 M0 (Ty.tup [r1, r2, r3])) .ret) := by
  intro a w ⟨M, ok, hsl, htg⟩
  have hd := hsl tm (by simpa using ht)
  rw [hx] at hd
  obtain ⟨b, hb, e⟩ := hd
  obtain ⟨b', cs, hb', hh, hds⟩ := htg _ (tag_mem hc)
  obtain ⟨u, rfl⟩ : ∃ u, tg = u + 1 := ⟨tg - 1, by omega⟩
  have := ok.wf.inj b b' u (by omega) hb hb'
  subst this
  have hlen := dens_len hds
  have hload := run_loadN (P := P) hT ha (w := w) (b := b) (off := 0) (cs := cs.toList) (by rw [hlen, hl]) (fun j v hj => by simpa [World.cell?, hh] using hj)
  have hload' : (loadVar ty ⟨b, 0, none⟩).run P w = .ok (.agg cs) w := by simpa [Instr.loadAt, Instr.sureAddr] using hload
  refine ⟨ok.nodefers (by simp), .tuple #[.agg cs, a.tmps.getD t2 undef, a.tmps.getD t3 undef], ?_, _, pubM M, rfl, pubM_wf ok.wf, base_pub (fr := ⟨n, w0, M0, [], .plain⟩) (fun _ h => h) ok.base, _, rfl, hs _ _ _ ok.wf ⟨cs, rfl, hds⟩, hs2 _ _ _ ok.wf (hsl t2 (by simpa using h2)), hs3 _ _ _ ok.wf (hsl t3 (by simpa using h3)), trivial⟩
  have e' : a.tmps.getD tm undef = .pointer (some ⟨b, 0, none⟩) := e
  have e'' : a.tmps[tm]?.getD undef = .pointer (some ⟨b, 0, none⟩) := by rw [← Array.getD_eq_getD_getElem?]; exact e'
  simp [results, hr, e'', asAddr, hload']
end
section
variable {P : Program} {fr : Fr} {A : As} {c : Code} {Q : Exit → Act → World → Prop}
theorem t_asC {tg : Nat} {C D : Cont} (hc : A.tag tg = some C) (h : C.Sub D) (h' : Tri P fr c ⟨A.slots, (tg, D) :: A.tags⟩ Q) : Tri P fr c A Q := fun a w ⟨M, ok, hsl, ht⟩ =>
  h' a w ⟨M, ok, hsl, fun x hx => by
    rcases List.mem_cons.1 hx with rfl | hx
    · exact h _ _ _ (ht _ (tag_mem hc))
    · exact ht x hx⟩
end
section
variable {P : Program} {fr : Fr} {ops : Array Oper} {A : As} {rest : List Oper} {K : As → List (As × Fx) → Prop} {d : Nat} {t mt kt et : TypeId} {p : String} {e : Array Edge} {κ β : Type} [DecidableEq κ]
theorem r_lenPm {x : Operand} {enc : κ → Value} {V : VT β} {kvs : List (κ × β)} (hx : A.op fr x = .pm enc V kvs) (hm : mapOf P mt = some (kt, et))
    (h : TOps P fr ops rest (A.set d (.int .i64 kvs.length)) fun A' l' => K A' ((A, { d := some d, ty := .int .i64 kvs.length, rs := opR x }) :: l')) :
    TOps P fr ops (⟨some d, .call ⟨.builtin .len, #[x], #[mt]⟩, t, p, e, none⟩ :: rest) A K :=
  tops_pure (opT_pure rfl rfl fun a w M _ hrd _ => by
    have hdx := op_den (x := x) (fun _ h => h) hrd
    rw [hx] at hdx
    obtain ⟨b, ex, _, _, es, clock, h3, h4, _⟩ := hdx
    have hl : es.size = kvs.length := by have := congrArg List.length h4; simpa using this
    exact ⟨.int .i64 kvs.length, by simp [execOp, resolve, invoke, builtin, ex, Builtin.len_, run_underlying (mapOf_und hm), getObj, Sem.run, h3, goInt, hl], rfl⟩) h
end
theorem Ty.sub_pe {α : Type} {E : El α} {o : α} : (Ty.pp (E.tys o)).Sub (Ty.pe E o 0) := fun _ _ _ ⟨b, q, h1, h2⟩ => ⟨b, q, h1, h2⟩
end Go.T

namespace Go.Proofs.YtpnndljmhpepgaaGreat
open Go Go.T Go.RowKit
def plT (p : Pl) : List Ty := [Ty.int .i64 (nth p.1 0), Ty.int .i64 (nth p.1 1), Ty.int .i64 (nth p.1 2), Ty.int .i64 (nth p.1 3), Ty.int .i64 (nth p.1 4), Ty.int .i64 (nth p.1 5)]
theorem plT_get (p : Pl) {i : Nat} (h : i < 6) : (plT p)[i]? = some (Ty.int .i64 (nth p.1 i)) := by
  match i, h with
  | 0, _ => rfl
  | 1, _ => rfl
  | 2, _ => rfl
  | 3, _ => rfl
  | 4, _ => rfl
  | 5, _ => rfl
theorem plT_flat (p : Pl) : plT p = p.1.flatMap I64.tys := by
  obtain ⟨l, h⟩ := p
  match l, h with
  | [a, b, c, d, e, f], _ => rfl
def setP (p : Pl) (i : Nat) (v : Int) : Pl := ⟨p.1.set i v, by rw [List.length_set]; exact p.2⟩
theorem plT_set (p : Pl) {i : Nat} (v : Int) (h : i < 6) : (plT p).set i (Ty.int .i64 v) = plT (setP p i v) := by
  obtain ⟨l, hl⟩ := p
  match l, hl with
  | [a, b, c, d, e, f], _ =>
    match i, h with
    | 0, _ => rfl
    | 1, _ => rfl
    | 2, _ => rfl
    | 3, _ => rfl
    | 4, _ => rfl
    | 5, _ => rfl
def PlE : El Pl := El.mk' 6 plT (fun _ => rfl) (fun _ => ⟨rfl, rfl, rfl⟩)
structure Desk where
  b : Barn
  first : Pl
  deriving Inhabited
def deskTys (d : Desk) : List Ty := [Ty.sl I64 d.b.sizes, Ty.sl LotE d.b.lots, Ty.int .i64 (nth d.first.1 0), Ty.int .i64 (nth d.first.1 1), Ty.int .i64 (nth d.first.1 2), Ty.int .i64 (nth d.first.1 3), Ty.int .i64 (nth d.first.1 4), Ty.int .i64 (nth d.first.1 5)]
def DeskE : El Desk := El.mk' 8 deskTys (fun _ => rfl) (fun _ => ⟨rfl, rfl, rfl⟩)
theorem desk_set (d : Desk) {i : Nat} (v : Int) (h : i < 6) : (DeskE.tys d).set (2 + i) (Ty.int .i64 v) = DeskE.tys ⟨d.b, setP d.first i v⟩ := by
  obtain ⟨b, l, hl⟩ := d
  match l, hl with
  | [a, b, c, d, e, f], _ =>
    match i, h with
    | 0, _ => rfl
    | 1, _ => rfl
    | 2, _ => rfl
    | 3, _ => rfl
    | 4, _ => rfl
    | 5, _ => rfl
def wayT (w : Way) : List Ty := [Ty.int .i64 (nth w.frm.1 0), Ty.int .i64 (nth w.frm.1 1), Ty.int .i64 (nth w.frm.1 2), Ty.int .i64 (nth w.frm.1 3), Ty.int .i64 (nth w.frm.1 4), Ty.int .i64 (nth w.frm.1 5), Ty.sl TurE w.byT, Ty.int .i64 w.all]
def WayV : VT Way := ⟨fun w => Ty.agg (wayT w), fun _ => ⟨rfl, rfl⟩⟩
def foundTys (f : Found) : List Ty := [Ty.pm (encN 6) WayV f.ways, Ty.int .i64 (nth f.last.1 0), Ty.int .i64 (nth f.last.1 1), Ty.int .i64 (nth f.last.1 2), Ty.int .i64 (nth f.last.1 3), Ty.int .i64 (nth f.last.1 4), Ty.int .i64 (nth f.last.1 5), Ty.bool f.is]
def foundT (f : Found) : Ty := Ty.agg (foundTys f)
theorem key_pl (p : Pl) : KeyAt (.agg (plT p)) (encN 6 p) := by rw [plT_flat]; exact key_agg p
theorem und91 : Tryz.prog.underlying 91 = some (.array 6 3) := by kernel_rfl
theorem eqv91 (a0 a1 a2 a3 a4 a5 b0 b1 b2 b3 b4 b5 : Int) (w : World) : (Op.equal 91 (.agg #[.int .i64 a0, .int .i64 a1, .int .i64 a2, .int .i64 a3, .int .i64 a4, .int .i64 a5]) (.agg #[.int .i64 b0, .int .i64 b1, .int .i64 b2, .int .i64 b3, .int .i64 b4, .int .i64 b5])).run Tryz.prog w = .ok ((decide (a0 = b0) && (decide (a1 = b1) && (decide (a2 = b2) && (decide (a3 = b3) && (decide (a4 = b4) && decide (a5 = b5))))))) w := by
  have hs : Tryz.prog.stoodInHeld 91 = false := by kernel_rfl
  have e3 : ∀ (x y : Int) (w : World), (Op.equalIn 9999 3 (.int .i64 x) (.int .i64 y)).run Tryz.prog w = .ok (decide (x = y)) w := fun x y w => eqIn_int 9998 Tryz.underlying3
  have g3 : ∀ w, (isAgg 3).run Tryz.prog w = .ok false w := fun w => by simp [isAgg, run_underlying Tryz.underlying3]
  unfold Op.equal Op.maxDepth
  rw [Op.equalIn]
  simp only [Sem.run_bind, run_underlying und91, Result.andThen_ok]
  simp [hs, part, g3, e3]
  rw [show List.range' 0 6 = [0, 1, 2, 3, 4, 5] from rfl]
  simp [List.forIn_cons, g3, e3]
  by_cases h0 : a0 = b0
  case neg => simp [h0]
  rw [if_pos h0]
  by_cases h1 : a1 = b1
  case neg => simp [h1]
  rw [if_pos h1]
  by_cases h2 : a2 = b2
  case neg => simp [h2]
  rw [if_pos h2]
  by_cases h3 : a3 = b3
  case neg => simp [h3]
  rw [if_pos h3]
  by_cases h4 : a4 = b4
  case neg => simp [h4]
  rw [if_pos h4]
  by_cases h5 : a5 = b5
  case neg => simp [h5]
  rw [if_pos h5]
  simp [h0, h1, h2, h3, h4, h5]
theorem eqt91 (p q : Pl) : EqT Tryz.prog 91 (plT p) (plT q) (decide (p = q)) := by
  obtain ⟨l, hl⟩ := p
  obtain ⟨k, hk⟩ := q
  match l, hl with
  | [a0, a1, a2, a3, a4, a5], _ =>
    match k, hk with
    | [b0, b1, b2, b3, b4, b5], _ =>
      refine ⟨by kernel_rfl, fun w M cs ds h1 h2 => ?_⟩
      obtain ⟨cs⟩ := cs
      obtain ⟨ds⟩ := ds
      match cs, ds, h1, h2 with
      | [u0, u1, u2, u3, u4, u5], [v0, v1, v2, v3, v4, v5], h1, h2 =>
        change dens w M [Ty.int .i64 a0, Ty.int .i64 a1, Ty.int .i64 a2, Ty.int .i64 a3, Ty.int .i64 a4, Ty.int .i64 a5] _ at h1
        change dens w M [Ty.int .i64 b0, Ty.int .i64 b1, Ty.int .i64 b2, Ty.int .i64 b3, Ty.int .i64 b4, Ty.int .i64 b5] _ at h2
        simp only [dens, Ty.int, dInt, and_true] at h1 h2
        obtain ⟨rfl, rfl, rfl, rfl, rfl, rfl⟩ := h1
        obtain ⟨rfl, rfl, rfl, rfl, rfl, rfl⟩ := h2
        rw [eqv91]
        congr 1
        simp only [Subtype.mk.injEq, List.cons.injEq, and_true, Bool.decide_and]
theorem enc_eq (x y : Pl) (w : World) : (Op.equal 91 (encN 6 x) (encN 6 y)).run Tryz.prog w = .ok (decide (x = y)) w := by
  obtain ⟨l, hl⟩ := x
  obtain ⟨k, hk⟩ := y
  match l, hl with
  | [a0, a1, a2, a3, a4, a5], _ =>
    match k, hk with
    | [b0, b1, b2, b3, b4, b5], _ =>
      show (Op.equal 91 (.agg #[.int .i64 a0, .int .i64 a1, .int .i64 a2, .int .i64 a3, .int .i64 a4, .int .i64 a5]) (.agg #[.int .i64 b0, .int .i64 b1, .int .i64 b2, .int .i64 b3, .int .i64 b4, .int .i64 b5])).run Tryz.prog w = _
      rw [eqv91]
      congr 1
      simp only [Subtype.mk.injEq, List.cons.injEq, and_true, Bool.decide_and]
theorem enc_check (b : Bool) (x : Pl) (w : World) : (Instr.checkKey b 10000 91 (encN 6 x)).run Tryz.prog w = .ok () w := by
  obtain ⟨l, hl⟩ := x
  have h3 : ∀ (v : Value) (w : World), (Instr.checkKey b 9999 3 v).run Tryz.prog w = .ok () w := fun v w => by
    rw [show (9999 : Nat) = 9998 + 1 from rfl, Instr.checkKey]
    simp only [Sem.run_bind, run_underlying Tryz.underlying3, Result.andThen_ok]; rfl
  match l, hl with
  | [a0, a1, a2, a3, a4, a5], _ =>
    have g3 : ∀ w, (isAgg 3).run Tryz.prog w = .ok false w := fun w => by simp [isAgg, run_underlying Tryz.underlying3]
    have s3 : ∀ w, (sizeOf 3).run Tryz.prog w = .ok 1 w := fun w => run_sizeOf' (T := inferInstance) (x := ⟨.int .i64, 1, 8, [.int .i64 0]⟩) rfl w
    rw [show (10000 : Nat) = 9999 + 1 from rfl, Instr.checkKey]
    simp only [Sem.run_bind, run_underlying und91, Result.andThen_ok, encN]
    simp [s3, part, g3, h3]
    rw [show List.range' 0 6 = [0, 1, 2, 3, 4, 5] from rfl]
    simp [List.forIn_cons, s3, g3, h3]
def plKey : KeyK Tryz.prog 91 Pl := arrKey Tryz.prog 91 6 3 und91 enc_eq enc_check
def i3Key : KeyK Tryz.prog 3 Int := intKey Tryz.prog 3 .i64 Tryz.underlying3
theorem mapT121 : mapOf Tryz.prog 96 = some (91, 95) := by kernel_rfl
theorem mapT158 : mapOf Tryz.prog 156 = some (3, 99) := by kernel_rfl
theorem mapT159 : mapOf Tryz.prog 157 = some (91, 4) := by kernel_rfl
theorem zero148 : zeroOf Tryz.prog 99 = some (.slice none 0 0) := by kernel_rfl
theorem zero4 : zeroOf Tryz.prog 4 = some (.bool false) := by kernel_rfl
theorem zero147 : zeroOf Tryz.prog 95 = some (.agg #[.int .i64 0, .int .i64 0, .int .i64 0, .int .i64 0, .int .i64 0, .int .i64 0, .slice none 0 0, .int .i64 0]) := by kernel_rfl
theorem vbool_zero : ∀ w M, (VBool.ty false).den w M (.bool false) := fun _ _ => rfl
theorem nil_tur (w : World) (M : Tags) : (Ty.sl TurE []).den w M (.slice none 0 0) := Ty.nil_sl w M _ rfl
theorem way_zero : ∀ w M, (WayV.ty way0).den w M (.agg #[.int .i64 0, .int .i64 0, .int .i64 0, .int .i64 0, .int .i64 0, .int .i64 0, .slice none 0 0, .int .i64 0]) := fun w M =>
  ⟨_, rfl, rfl, rfl, rfl, rfl, rfl, rfl, nil_tur w M, rfl, trivial⟩
theorem way0_sub : (Ty.agg [Ty.int .i64 0, Ty.int .i64 0, Ty.int .i64 0, Ty.int .i64 0, Ty.int .i64 0, Ty.int .i64 0, Ty.ex (.slice none 0 0), Ty.int .i64 0]).Sub (WayV.ty way0) := fun w M v hd => by
  obtain ⟨cs, e, h⟩ := hd
  obtain ⟨cs⟩ := cs
  match cs, h with
  | [_, _, _, _, _, _, _, _], ⟨h1, h2, h3, h4, h5, h6, h7, h8, _⟩ => exact ⟨_, e, h1, h2, h3, h4, h5, h6, Ty.nil_sl w M _ h7, h8, trivial⟩
end Go.Proofs.YtpnndljmhpepgaaGreat

namespace Go.Proofs.YtpnndljmhpepgaaGreat
open Go Go.T
theorem prefix_nth {α : Type} [Inhabited α] {A B : List α} {x : α} (h : (A ++ [x]) <+: B) : A.length < B.length ∧ nth B A.length = x := by
  obtain ⟨C, rfl⟩ := h
  refine ⟨by simp, ?_⟩
  unfold nth
  rw [List.getD_eq_getElem?_getD, List.getElem?_append_left (by simp), List.getElem?_append_right (Nat.le_refl _)]
  simp
def turnsUp (b : Barn) (p : Pl) (k : Nat) : List Tur := (List.range k).flatMap (turnsAt b p)
def lotsUp (b : Barn) (k m : Nat) : List Tur := ((List.range m).filter fun (i : Nat) => b.hold k i).map fun (i : Nat) => ⟨i, k⟩
theorem turnsUp_succ (b : Barn) (p : Pl) (k : Nat) : turnsUp b p (k + 1) = turnsUp b p k ++ turnsAt b p k := by
  unfold turnsUp; rw [List.range_succ, List.flatMap_append]; simp
theorem turnsAt_no {b : Barn} {p : Pl} {k : Nat} (h : takenP b p k = true) : turnsAt b p k = [] := by unfold turnsAt; rw [if_pos h]
theorem turnsAt_yes {b : Barn} {p : Pl} {k : Nat} (h : takenP b p k = false) : turnsAt b p k = lotsUp b k b.lots.length := by unfold turnsAt lotsUp; rw [if_neg (by rw [h]; decide)]
theorem lotsUp_yes {b : Barn} {k m : Nat} (h : b.hold k m = true) : lotsUp b k (m + 1) = lotsUp b k m ++ [⟨m, k⟩] := by
  unfold lotsUp
  rw [List.range_succ, List.filter_append, List.map_append, List.filter_cons, if_pos h]; rfl
theorem lotsUp_no {b : Barn} {k m : Nat} (h : b.hold k m = false) : lotsUp b k (m + 1) = lotsUp b k m := by
  unfold lotsUp
  rw [List.range_succ, List.filter_append, List.map_append, List.filter_cons, if_neg (by rw [h]; decide)]; simp
theorem range_split {n k : Nat} (h : k ≤ n) : ∃ l, List.range n = List.range k ++ l := ⟨(List.range n).drop k, by
  have := List.take_append_drop k (List.range n)
  rw [List.take_range, show min k n = k by omega] at this; exact this.symm⟩
theorem turnsUp_pre {b : Barn} {p : Pl} {k : Nat} (h : k ≤ b.sizes.length) : turnsUp b p k <+: turnsL b p := by
  obtain ⟨l, e⟩ := range_split h
  unfold turnsL turnsUp
  rw [e, List.flatMap_append]; exact List.prefix_append _ _
theorem lotsUp_pre {b : Barn} {k m n : Nat} (h : m ≤ n) : lotsUp b k m <+: lotsUp b k n := by
  obtain ⟨l, e⟩ := range_split h
  unfold lotsUp
  rw [e, List.filter_append, List.map_append]; exact List.prefix_append _ _
theorem turns_nth {b : Barn} {p : Pl} {k m : Nat} (hk : k < b.sizes.length) (ht : takenP b p k = false) (hm : m < b.lots.length) (hh : b.hold k m = true) :
    (turnsUp b p k).length + (lotsUp b k m).length < (turnsL b p).length ∧ nth (turnsL b p) ((turnsUp b p k).length + (lotsUp b k m).length) = ⟨m, k⟩ := by
  rw [← List.length_append]
  refine prefix_nth (List.IsPrefix.trans ?_ (turnsUp_pre (k := k + 1) (by omega)))
  rw [turnsUp_succ, turnsAt_yes ht, List.append_assoc, List.prefix_append_right_inj, ← lotsUp_yes hh]
  exact lotsUp_pre (by omega)
theorem mem_take_six {p : Pl} {n : Nat} {x : Int} (hn : n ≤ 6) : x ∈ p.1.take n ↔ ∃ i, i < n ∧ nth p.1 i = x := by
  rw [List.mem_take_iff_getElem]
  have := p.2
  constructor
  · rintro ⟨i, hi, rfl⟩
    exact ⟨i, by omega, nth_lt (by omega)⟩
  · rintro ⟨i, hi, rfl⟩
    exact ⟨i, by omega, (nth_lt (by omega)).symm⟩
theorem taken_iff {b : Barn} {p : Pl} {k : Int} (hl : b.lots.length ≤ 6) : takenP b p k = true ↔ ∃ i, i < b.lots.length ∧ nth p.1 i = k := by
  unfold takenP
  rw [List.any_eq_true]
  constructor
  · rintro ⟨x, hx, h⟩
    obtain ⟨i, hi, e⟩ := (mem_take_six hl).1 hx
    exact ⟨i, hi, by rw [e]; exact of_decide_eq_true h⟩
  · rintro ⟨i, hi, e⟩
    exact ⟨_, (mem_take_six hl).2 ⟨i, hi, rfl⟩, decide_eq_true e⟩
theorem taken_at {b : Barn} {p : Pl} {k : Int} {i : Nat} (hl : b.lots.length ≤ 6) (hi : i < b.lots.length) (h : nth p.1 i = k) : true = takenP b p k := ((taken_iff hl).2 ⟨i, hi, h⟩).symm
theorem taken_not {b : Barn} {p : Pl} {k : Int} (hl : b.lots.length ≤ 6) (h : ∀ i, i < b.lots.length → nth p.1 i ≠ k) : false = takenP b p k := by
  symm; rw [Bool.eq_false_iff]; intro h2
  obtain ⟨i, hi, e⟩ := (taken_iff hl).1 h2
  exact h i hi e
theorem lt_ext {q : Nat → Prop} {k : Nat} (h : ∀ i, i < k → q i) (hk : q k) : ∀ i, i < k + 1 → q i := fun i hi => by
  by_cases e : i = k
  · subst e; exact hk
  · exact h i (by omega)
def madeI (b : Barn) (p : Pl) (i : Nat) : Bool := decide ((nth b.lots i).aim = -1) || decide ((nth b.lots i).aim = nth p.1 i)
theorem made_not {b : Barn} {p : Pl} {i : Nat} (hi : i < b.lots.length) (h : madeI b p i = false) : false = madeP b p := by
  symm; unfold madeP
  rw [List.all_eq_false]
  exact ⟨i, List.mem_range.2 hi, by show ¬ madeI b p i = true; rw [h]; decide⟩
theorem made_all {b : Barn} {p : Pl} (h : ∀ i, i < b.lots.length → madeI b p i = true) : true = madeP b p := by
  symm; unfold madeP
  rw [List.all_eq_true]
  exact fun i hi => h i (List.mem_range.1 hi)
theorem madeI_eq {b : Barn} {p : Pl} {i : Nat} : (!decide ((nth b.lots i).aim = -1) && !decide ((nth b.lots i).aim = nth p.1 i)) = !madeI b p i := by
  unfold madeI; rw [Bool.not_or]
def firstUp (b : Barn) (k : Nat) : Pl := ⟨(((b.lots.take k).map fun (l : Lot) => l.inn) ++ List.replicate 6 (0 : Int)).take 6, by rw [List.length_take, List.length_append, List.length_replicate]; omega⟩
theorem firstUp_all {b : Barn} {k : Nat} (h : b.lots.length ≤ k) : firstUp b k = firstP b := by
  unfold firstUp firstP; simp only [List.take_of_length_le h]
theorem snoc_fill {L : List Int} {k : Nat} (hL : L.length = k) (hk : k < 6) (v : Int) : ((L ++ List.replicate 6 (0 : Int)).take 6).set k v = ((L ++ [v]) ++ List.replicate 6 (0 : Int)).take 6 := by
  rw [List.append_assoc, List.take_append, List.take_append, hL, List.take_of_length_le (by omega), List.set_append_right _ _ (by omega), hL, Nat.sub_self]
  congr 1
  obtain ⟨m, hm⟩ : ∃ m, 6 - k = m + 1 := ⟨5 - k, by omega⟩
  rw [hm]
  show v :: List.take m (List.replicate 5 (0 : Int)) = v :: List.take m (List.replicate 6 (0 : Int))
  rw [List.take_replicate, List.take_replicate, show min m 5 = m by omega, show min m 6 = m by omega]
theorem firstUp_succ {b : Barn} {k : Nat} (hk : k < b.lots.length) (h6 : b.lots.length ≤ 6) : setP (firstUp b k) k (nth b.lots k).inn = firstUp b (k + 1) := by
  apply Subtype.ext
  show (((b.lots.take k).map (fun (l : Lot) => l.inn) ++ List.replicate 6 (0 : Int)).take 6).set k (nth b.lots k).inn = ((b.lots.take (k + 1)).map (fun (l : Lot) => l.inn) ++ List.replicate 6 (0 : Int)).take 6
  rw [take_nth hk, List.map_append, snoc_fill (by rw [List.length_map, List.length_take]; omega) (by omega)]
  rfl
end Go.Proofs.YtpnndljmhpepgaaGreat

namespace Go.Proofs.YtpnndljmhpepgaaGreat
open Go Go.T
set_option maxHeartbeats 2000000
theorem pe_at {p : Pl} {i : Nat} (h : i < 6) : (PlE.tys p)[0 + i * 1]? = some (Ty.int .i64 (nth p.1 i)) := by rw [show 0 + i * 1 = i by omega]; exact plT_get p h
theorem desk_zero (b : Barn) : DeskE.tys ⟨b, pl0⟩ = [Ty.sl I64 b.sizes, Ty.sl LotE b.lots, Ty.int .i64 0, Ty.int .i64 0, Ty.int .i64 0, Ty.int .i64 0, Ty.int .i64 0, Ty.int .i64 0] := rfl
theorem desk_step {b : Barn} {k : Nat} (hk : k < b.lots.length) (h6 : b.lots.length ≤ 6) : (DeskE.tys ⟨b, firstUp b k⟩).set (0 + 2 + k * 1) (Ty.int .i64 (nth b.lots k).inn) = DeskE.tys ⟨b, firstUp b (k + 1)⟩ := by
  rw [show 0 + 2 + k * 1 = 2 + k by omega, desk_set _ _ (by omega), firstUp_succ hk h6]
def turEnc (t : Tur) : List Ty := [Ty.agg (TurE.tys t)]
attribute [local irreducible] dInt dBool dSl dPp dPtr dAgg dTup dClo dAny dEx dStr dGd dCells dVec dVs dRow dOp nth Tri Into TOps Ctr bodyPost Exit.then Exit.inBlock Code.wp Code.wpIn dWhen dPa dPe dAo dArr dMp dPm dMap dCJ CtrG CtrI OpY keepPost iterPost bodyPostM roundQ
theorem c_holds_at (b : Barn) (k i : Nat) (hk : k < b.sizes.length) (hi : i < b.lots.length) {v : Bool} (h : b.hold k i = v) : Ctr Tryz.prog 79 [barnT b, Ty.int .i64 (k : Nat), Ty.int .i64 (i : Nat)] (Ty.bool v) := h ▸ c_holds b k i ⟨by omega, by omega⟩ ⟨by omega, by omega⟩
set_option maxRecDepth 100000 in
theorem c_taken (d : Desk) (hl : d.b.lots.length ≤ 6) (p : Pl) (n : Int) : Ctr Tryz.prog 95 [Ty.pe DeskE d 0, Ty.agg (plT p), Ty.int .i64 n] (Ty.bool (takenP d.b p n)) := by
  refine fn_intro Tryz.func95 rfl (by decide) Tryz.ntmps95 (by exact Nat.le_of_ble_eq_true rfl) fun w0 M0 => ?_
  refine t_seq ?_
  refine t_region ?_
  refine r_box_agg rfl ?_
  refine asB rfl ?_
  refine r_nil ?_
  refine i_then ?_
  refine t_seq ?_
  refine t_seq ?_
  refine t_as (s := 4) (ty := Ty.pp (PlE.tys p)) rfl Ty.sub_pe ?_
  refine t_region ?_
  refine mvPe rfl ?_
  refine r_nilCheck_pe rfl ?_
  refine r_field_pe rfl rfl rfl rfl rfl (by decide) ?_
  refine r_field_pe rfl rfl rfl rfl rfl (by decide) ?_
  refine r_load_pe rfl rfl rfl rfl ?_
  refine r_len rfl rfl rfl ?_
  refine mvI rfl ?_
  refine r_nil ?_
  refine i_then ?_
  refine t_block ?_
  refine t_loop (fun (k : {k : Nat // ∀ i, i < k → nth p.1 i ≠ n}) => live [(2, Ty.int .i64 n), (4, Ty.pe PlE p 0), (13, Ty.int .i64 d.b.lots.length), (14, Ty.int .i64 (k.1 : Nat))] []) (fun k => d.b.lots.length - k.1) (⟨0, fun i hi => absurd hi (Nat.not_lt_zero i)⟩) ?_ fun k => ?_
  · (refine Ent.mk' ?_ ?_ <;> (repeat' (first | exact allSub_zero | exact allTags_nil | refine allSub_succ' ?_ (Ty.sub_any _) | refine allSub_succ' ?_ (Ty.sub_refl _))))
  ·
    refine t_seq ?_
    refine t_region ?_
    refine r_bin rfl rfl rfl ?_
    refine r_nil ?_
    refine i_then ?_
    refine t_seq ?_
    refine t_cond_dec rfl (fun hc1 => ?_) (fun hc1 => ?_)
    ·
      refine t_skip ?_
      refine i_then ?_
      refine t_seq ?_
      refine t_block ?_
      refine t_seq ?_
      refine t_region ?_
      refine mvI rfl ?_
      refine asI rfl ?_
      refine r_nil ?_
      refine i_then ?_
      refine t_seq ?_
      refine t_region ?_
      refine mvI rfl ?_
      refine r_index_pe rfl rfl rfl rfl rfl (by omega) ?_
      refine r_load_pe rfl rfl rfl (pe_at (by omega)) ?_
      refine mvI rfl ?_
      refine r_bin rfl rfl rfl ?_
      refine r_nil ?_
      refine i_then ?_
      refine t_cond_dec rfl (fun hc2 => ?_) (fun hc2 => ?_)
      ·
        refine t_seq ?_
        refine t_region ?_
        refine asB rfl ?_
        refine r_nil ?_
        refine i_then ?_
        refine t_ret ?_
        refine i_block_ret ?_
        refine i_then_ret ?_
        refine i_then_ret ?_
        refine i_block_ret ?_
        refine i_then_ret ?_
        refine i_rp1 rfl rfl ?_
        all_goals skip
        exact ret_eq rfl rfl (congrArg Ty.bool (taken_at hl (by omega) hc2))
      ·
        refine t_skip ?_
        refine i_block ?_
        refine i_then ?_
        refine t_region ?_
        refine r_add rfl rfl (by omega) (by omega) ?_
        refine mvI rfl ?_
        refine r_nil ?_
        refine i_round (⟨k.1 + 1, lt_ext k.2 hc2⟩) ?_ (by show d.b.lots.length - (k.1 + 1) < d.b.lots.length - k.1; omega)
        (refine Ent.mk' ?_ ?_ <;> (repeat' (first | exact allSub_zero | exact allTags_nil | refine allSub_succ' ?_ (Ty.sub_any _) | refine allSub_succ' ?_ (Ty.sub_refl _))))
        all_goals skip
    ·
      refine t_exit ?_
      refine i_then_exit ?_
      refine i_then_exit ?_
      refine i_block_exit rfl ?_
      refine i_then ?_
      refine t_seq ?_
      refine t_region ?_
      refine asB rfl ?_
      refine r_nil ?_
      refine i_then ?_
      refine t_ret ?_
      refine i_rp1 rfl rfl ?_
      all_goals skip
      exact ret_eq rfl rfl (congrArg Ty.bool (taken_not hl (fun i hi => k.2 i (by omega))))
set_option maxRecDepth 100000 in
theorem c_made (d : Desk) (hl : d.b.lots.length ≤ 6) (p : Pl) : Ctr Tryz.prog 45 [Ty.pe DeskE d 0, Ty.agg (plT p)] (Ty.bool (madeP d.b p)) := by
  refine fn_intro Tryz.func45 rfl (by decide) Tryz.ntmps45 (by exact Nat.le_of_ble_eq_true rfl) fun w0 M0 => ?_
  refine t_seq ?_
  refine t_region ?_
  refine r_box_agg rfl ?_
  refine asB rfl ?_
  refine r_nil ?_
  refine i_then ?_
  refine t_seq ?_
  refine t_seq ?_
  refine t_as (s := 3) (ty := Ty.pp (PlE.tys p)) rfl Ty.sub_pe ?_
  refine t_region ?_
  refine mvPe rfl ?_
  refine r_nilCheck_pe rfl ?_
  refine r_field_pe rfl rfl rfl rfl rfl (by decide) ?_
  refine r_field_pe rfl rfl rfl rfl rfl (by decide) ?_
  refine r_load_pe rfl rfl rfl rfl ?_
  refine r_len rfl rfl rfl ?_
  refine mvI rfl ?_
  refine r_nil ?_
  refine i_then ?_
  refine t_block ?_
  refine t_loop (fun (k : {k : Nat // ∀ i, i < k → madeI d.b p i = true}) => live [(3, Ty.pe PlE p 0), (11, Ty.sl LotE d.b.lots), (12, Ty.int .i64 d.b.lots.length), (13, Ty.int .i64 (k.1 : Nat))] []) (fun k => d.b.lots.length - k.1) (⟨0, fun i hi => absurd hi (Nat.not_lt_zero i)⟩) ?_ fun k => ?_
  · (refine Ent.mk' ?_ ?_ <;> (repeat' (first | exact allSub_zero | exact allTags_nil | refine allSub_succ' ?_ (Ty.sub_any _) | refine allSub_succ' ?_ (Ty.sub_refl _))))
  ·
    refine t_seq ?_
    refine t_region ?_
    refine r_bin rfl rfl rfl ?_
    refine r_nil ?_
    refine i_then ?_
    refine t_seq ?_
    refine t_cond_dec rfl (fun hc1 => ?_) (fun hc1 => ?_)
    ·
      refine t_skip ?_
      refine i_then ?_
      refine t_seq ?_
      refine t_block ?_
      refine t_seq ?_
      refine t_region ?_
      refine mvI rfl ?_
      refine r_index_slN rfl rfl rfl rfl rfl rfl (by omega) ?_
      refine r_load_ppN rfl rfl rfl (by exact Nat.le_of_ble_eq_true rfl) ?_
      refine r_alloc rfl (by exact List.cons_ne_nil _ _) rfl ?_
      refine asI rfl ?_
      refine r_storeN rfl rfl (by decide) rfl rfl rfl rfl rfl rfl ?_
      refine r_nil ?_
      refine i_then ?_
      refine t_seq ?_
      refine t_draw mixed rfl ?_
      refine r_field_ptr rfl rfl rfl rfl rfl (by decide) ?_
      refine r_load_ptr rfl rfl (by decide) rfl rfl rfl ?_
      refine r_bin rfl rfl rfl ?_
      refine mvB rfl ?_
      apply r_guard (s := 21) rfl rfl rfl
      · intro hg; apply opT_of; (refine r_field_ptr rfl rfl rfl rfl rfl (by decide) ?_); refine r_nil ?_; exact rfl
      · exact rfl
      · exact rfl
      apply r_guard (s := 21) rfl rfl rfl
      · intro hg; apply opT_strip (s := 22) rfl (by (rw [hg]; rfl)); apply opT_of; (refine r_load_ptr rfl rfl (by decide) rfl rfl rfl ?_); refine r_nil ?_; exact rfl
      · exact rfl
      · exact rfl
      apply r_guard (s := 21) rfl rfl rfl
      · intro hg; apply opT_of; (refine mvI rfl ?_); refine r_nil ?_; exact rfl
      · exact rfl
      · exact rfl
      apply r_guard (s := 21) rfl rfl rfl
      · intro hg; apply opT_strip (s := 24) rfl (by (rw [hg]; rfl)); apply opT_of; (refine r_index_pe rfl rfl rfl rfl rfl (by omega) ?_); refine r_nil ?_; exact rfl
      · exact rfl
      · exact rfl
      apply r_guard (s := 21) rfl rfl rfl
      · intro hg; apply opT_strip (s := 25) rfl (by (rw [hg]; rfl)); apply opT_of; (refine r_load_pe rfl rfl rfl (pe_at (by omega)) ?_); refine r_nil ?_; exact rfl
      · exact rfl
      · exact rfl
      apply r_guard (s := 21) rfl rfl rfl
      · intro hg; apply opT_strip (s := 23) rfl (by (rw [hg]; rfl)); apply opT_strip (s := 26) rfl (by (rw [hg]; rfl)); apply opT_of; (refine r_bin rfl rfl rfl ?_); refine r_nil ?_; exact rfl
      · exact rfl
      · exact rfl
      refine r_and rfl rfl ?_
      refine r_nil ?_
      refine ⟨by kernel_rfl, ?_⟩
      refine i_then ?_
      refine t_cond rfl (fun hc2 => ?_) (fun hc2 => ?_)
      ·
        refine t_seq ?_
        refine t_region ?_
        refine asB rfl ?_
        refine r_nil ?_
        refine i_then ?_
        refine t_ret ?_
        refine i_block_ret ?_
        refine i_then_ret ?_
        refine i_then_ret ?_
        refine i_block_ret ?_
        refine i_then_ret ?_
        refine i_rp1 rfl rfl ?_
        all_goals skip
        exact ret_eq rfl rfl (congrArg Ty.bool (made_not (i := k.1) (by omega) (by have h := hc2; rw [madeI_eq] at h; simpa using h)))
      ·
        refine t_skip ?_
        refine i_block ?_
        refine i_then ?_
        refine t_region ?_
        refine r_add rfl rfl (by omega) (by omega) ?_
        refine mvI rfl ?_
        refine r_nil ?_
        refine i_round (⟨k.1 + 1, lt_ext k.2 (by have h := hc2; rw [madeI_eq] at h; simpa using h)⟩) ?_ (by show d.b.lots.length - (k.1 + 1) < d.b.lots.length - k.1; omega)
        (refine Ent.mk' ?_ ?_ <;> (repeat' (first | exact allSub_zero | exact allTags_nil | refine allSub_succ' ?_ (Ty.sub_any _) | refine allSub_succ' ?_ (Ty.sub_refl _))))
        all_goals skip
    ·
      refine t_exit ?_
      refine i_then_exit ?_
      refine i_then_exit ?_
      refine i_block_exit rfl ?_
      refine i_then ?_
      refine t_seq ?_
      refine t_region ?_
      refine asB rfl ?_
      refine r_nil ?_
      refine i_then ?_
      refine t_ret ?_
      refine i_rp1 rfl rfl ?_
      all_goals skip
      exact ret_eq rfl rfl (congrArg Ty.bool (made_all (fun i hi => k.2 i (by omega))))
set_option maxRecDepth 100000 in
theorem c_least (n : Int) (l : List Int) : Ctr Tryz.prog 122 [Ty.int .i64 n, Ty.sl I64 l] (Ty.int .i64 (l.foldl min n)) := by
  refine fn_intro Tryz.func122 rfl (by decide) Tryz.ntmps122 (by exact Nat.le_of_ble_eq_true rfl) fun w0 M0 => ?_
  refine t_fact (s := 1) rfl rfl sl_len fun hl => ?_
  refine t_seq ?_
  refine t_region ?_
  refine asI rfl ?_
  refine r_nil ?_
  refine i_then ?_
  refine t_seq ?_
  refine t_seq ?_
  refine t_region ?_
  refine mvS rfl ?_
  refine r_len rfl rfl rfl ?_
  refine mvI rfl ?_
  refine r_nil ?_
  refine i_then ?_
  refine t_block ?_
  refine t_loop (fun (k : Nat) => live [(0, Ty.int .i64 ((l.take k).foldl min n)), (7, Ty.sl I64 l), (8, Ty.int .i64 l.length), (9, Ty.int .i64 (k : Nat))] []) (fun k => l.length - k) (0) ?_ fun k => ?_
  · (refine Ent.mk' ?_ ?_ <;> (repeat' (first | exact allSub_zero | exact allTags_nil | refine allSub_succ' ?_ (Ty.sub_any _) | refine allSub_succ' ?_ (Ty.sub_refl _))))
  ·
    refine t_seq ?_
    refine t_region ?_
    refine r_bin rfl rfl rfl ?_
    refine r_nil ?_
    refine i_then ?_
    refine t_seq ?_
    refine t_cond_dec rfl (fun hc1 => ?_) (fun hc1 => ?_)
    ·
      refine t_skip ?_
      refine i_then ?_
      refine t_seq ?_
      refine t_block ?_
      refine t_seq ?_
      refine t_region ?_
      refine r_index_slN rfl rfl rfl rfl rfl rfl (by omega) ?_
      refine r_load_pp rfl rfl rfl rfl ?_
      refine asI rfl ?_
      refine r_nil ?_
      refine i_then ?_
      refine t_region ?_
      refine mvI rfl ?_
      refine mvI rfl ?_
      refine r_min rfl rfl ?_
      refine asI rfl ?_
      refine r_nil ?_
      refine i_block ?_
      refine i_then ?_
      refine t_region ?_
      refine r_add rfl rfl (by omega) (by omega) ?_
      refine mvI rfl ?_
      refine r_nil ?_
      refine i_round (k + 1) ?_ (by omega)
      (refine Ent.mk' ?_ ?_ <;> (repeat' (first | exact allSub_zero | exact allTags_nil | refine allSub_succ' ?_ (Ty.sub_any _) | refine allSub_succ' ?_ (Ty.sub_refl _) | refine allSub_succ' ?_ ?_)))
      all_goals skip
      exact Ty.sub_int (by rw [take_nth (by omega), List.foldl_append]; rfl)
    ·
      refine t_exit ?_
      refine i_then_exit ?_
      refine i_then_exit ?_
      refine i_block_exit rfl ?_
      refine i_then ?_
      refine t_seq ?_
      refine t_region ?_
      refine mvI rfl ?_
      refine asI rfl ?_
      refine r_nil ?_
      refine i_then ?_
      refine t_ret ?_
      refine i_rp1 rfl rfl ?_
      all_goals skip
      exact ret_eq rfl rfl (congrArg (Ty.int .i64) (by rw [List.take_of_length_le (by omega)]))
set_option maxRecDepth 100000 in
theorem c_opened1 (b : Barn) (hs : b.Small) (he : checkB b ≠ 0) : Ctr Tryz.prog 82 [barnT b] (Ty.tup [Ty.ex (.pointer none), Ty.int .i64 (checkB b)]) := by
  refine fn_intro Tryz.func82 rfl (by decide) Tryz.ntmps82 (by exact Nat.le_of_ble_eq_true rfl) fun w0 M0 => ?_
  refine t_seq ?_
  refine t_region ?_
  refine r_box_agg rfl ?_
  refine asX rfl ?_
  refine asI rfl ?_
  refine r_nil ?_
  refine i_then ?_
  refine t_seq ?_
  refine t_seq ?_
  refine t_region ?_
  refine r_load_ppN rfl rfl rfl (by exact Nat.le_of_ble_eq_true rfl) ?_
  refine r_call (c_Check b hs) rfl rfl rfl rfl rfl ?_
  refine asI rfl ?_
  refine r_nil ?_
  refine i_then ?_
  refine t_seq ?_
  refine t_region ?_
  refine mvI rfl ?_
  refine r_bin rfl rfl rfl ?_
  refine r_nil ?_
  refine i_then ?_
  refine t_cond_tt rfl (by rw [decide_eq_false he]; rfl) ?_
  refine t_seq ?_
  refine t_region ?_
  refine mvI rfl ?_
  refine asX rfl ?_
  refine asI rfl ?_
  refine r_nil ?_
  refine i_then ?_
  refine t_ret ?_
  refine i_then_ret ?_
  refine i_rp2 rfl rfl rfl ?_ ?_
  all_goals exact ret_refl rfl rfl
  skip
set_option maxRecDepth 100000 in
theorem c_opened2 (b : Barn) (hs : b.Small) (h0 : checkB b = 0) : Ctr Tryz.prog 82 [barnT b] (Ty.tup [Ty.pe DeskE ⟨b, firstP b⟩ 0, Ty.int .i64 0]) := by
  refine fn_intro Tryz.func82 rfl (by decide) Tryz.ntmps82 (by exact Nat.le_of_ble_eq_true rfl) fun w0 M0 => ?_
  have h6 := (check_right h0).lots
  refine t_seq ?_
  refine t_region ?_
  refine r_box_agg rfl ?_
  refine asX rfl ?_
  refine asI rfl ?_
  refine r_nil ?_
  refine i_then ?_
  refine t_seq ?_
  refine t_seq ?_
  refine t_region ?_
  refine r_load_ppN rfl rfl rfl (by exact Nat.le_of_ble_eq_true rfl) ?_
  refine r_call (c_Check b hs) rfl rfl rfl rfl rfl ?_
  refine asI rfl ?_
  refine r_nil ?_
  refine i_then ?_
  refine t_seq ?_
  refine t_region ?_
  refine mvI rfl ?_
  refine r_bin rfl rfl rfl ?_
  refine r_nil ?_
  refine i_then ?_
  refine t_cond_ff rfl (by rw [h0]; rfl) ?_
  refine t_skip ?_
  refine i_then ?_
  refine t_seq ?_
  refine t_region ?_
  refine r_load_ppN rfl rfl rfl (by exact Nat.le_of_ble_eq_true rfl) ?_
  refine r_buildO DeskE ⟨b, pl0⟩ rfl rfl (by exact List.cons_ne_nil _ _) rfl (by repeat (first | exact (Parts.nil : Parts _ _ [] _) | (show Parts _ _ ((_, _) :: _) _; apply Parts.agg; (· exact (rfl : _ = Ty.agg _))))) (by rw [desk_zero]; rfl) ?_
  refine r_box_ob (E := DeskE) ⟨b, pl0⟩ rfl rfl ?_
  refine asO rfl ?_
  refine r_nil ?_
  refine i_then ?_
  refine t_seq ?_
  refine t_seq ?_
  refine t_region ?_
  refine r_field_pp rfl rfl rfl rfl rfl (by decide) ?_
  refine r_load_pp rfl rfl rfl rfl ?_
  refine r_len rfl rfl rfl ?_
  refine mvI rfl ?_
  refine r_nil ?_
  refine i_then ?_
  refine t_block ?_
  refine t_loop (fun (k : {k : Nat // k ≤ b.lots.length}) => live [(1, Ty.pp (barnTys b)), (5, Ty.ptr 16 0), (17, Ty.sl LotE b.lots), (18, Ty.int .i64 b.lots.length), (19, Ty.int .i64 (k.1 : Nat))] [(16, Cont.vec DeskE 93 [⟨b, firstUp b k.1⟩])]) (fun k => b.lots.length - k.1) (⟨0, by omega⟩) ?_ fun k => ?_
  · (refine Ent.mk' ?_ ?_ <;> (repeat' (first | exact allSub_zero | exact allTags_nil | refine allSub_succ' ?_ (Ty.sub_any _) | refine allSub_succ' ?_ (Ty.sub_refl _) | refine allTags_cons rfl (Cont.sub_refl _) ?_)))
  ·
    refine t_seq ?_
    refine t_region ?_
    refine r_bin rfl rfl rfl ?_
    refine r_nil ?_
    refine i_then ?_
    refine t_seq ?_
    refine t_cond_dec rfl (fun hc2 => ?_) (fun hc2 => ?_)
    ·
      refine t_skip ?_
      refine i_then ?_
      refine t_seq ?_
      refine t_block ?_
      refine t_seq ?_
      refine t_region ?_
      refine mvI rfl ?_
      refine r_index_slN rfl rfl rfl rfl rfl rfl (by omega) ?_
      refine r_load_ppN rfl rfl rfl (by exact Nat.le_of_ble_eq_true rfl) ?_
      refine r_alloc rfl (by exact List.cons_ne_nil _ _) rfl ?_
      refine asI rfl ?_
      refine r_storeN rfl rfl (by decide) rfl rfl rfl rfl rfl rfl ?_
      refine r_nil ?_
      refine i_then ?_
      refine t_draw mixed rfl ?_
      refine mvO rfl ?_
      refine mvI rfl ?_
      refine r_field_ptr rfl rfl rfl rfl rfl (by decide) ?_
      refine r_load_ptr rfl rfl (by decide) rfl rfl rfl ?_
      refine r_nilCheck_ptr rfl ?_
      refine r_field_ptr rfl rfl rfl rfl rfl (by decide) ?_
      refine r_index_ptr rfl rfl rfl rfl rfl (by omega) ?_
      refine r_store_ob (E := DeskE) (o := ⟨b, firstUp b k.1⟩) (z := ⟨b, firstUp b (k.1 + 1)⟩) rfl rfl (by decide) rfl rfl (by exact (rfl : _ = Ty.int _ _)) rfl (show 0 + 2 + k.1 * 1 < 8 by omega) rfl (desk_step (by omega) h6) ?_
      refine r_nil ?_
      refine ⟨by kernel_rfl, ?_⟩
      refine i_block ?_
      refine i_then ?_
      refine t_region ?_
      refine r_add rfl rfl (by omega) (by omega) ?_
      refine mvI rfl ?_
      refine r_nil ?_
      refine i_round (⟨k.1 + 1, by omega⟩) ?_ (by show b.lots.length - (k.1 + 1) < b.lots.length - k.1; omega)
      (refine Ent.mk' ?_ ?_ <;> (repeat' (first | exact allSub_zero | exact allTags_nil | refine allSub_succ' ?_ (Ty.sub_any _) | refine allSub_succ' ?_ (Ty.sub_refl _) | refine allTags_cons rfl (Cont.sub_refl _) ?_)))
      all_goals skip
    ·
      refine t_exit ?_
      refine i_then_exit ?_
      refine i_then_exit ?_
      refine i_block_exit rfl ?_
      refine i_then ?_
      refine t_seq ?_
      refine t_pub (tg := 16) [(5, Ty.pe DeskE ⟨b, firstUp b k.1⟩ 0)] (by decide) rfl ⟨pub_ob rfl rfl (by decide), trivial⟩ ?_
      refine t_region ?_
      refine mvPe rfl ?_
      refine asPe rfl ?_
      refine asI rfl ?_
      refine r_nil ?_
      refine i_then ?_
      refine t_ret ?_
      refine i_rp2 rfl rfl rfl ?_ ?_
      all_goals first | exact ret_refl rfl rfl | skip
      all_goals exact ret_eq rfl rfl (by rw [firstUp_all (by have := k.2; omega)]; rfl)
theorem c_open (b : Barn) (hs : b.Small) : Ctr Tryz.prog 82 [barnT b] (Ty.tup [Ty.when (decide (checkB b = 0)) (Ty.pe DeskE ⟨b, firstP b⟩ 0), Ty.int .i64 (checkB b)]) := by
  by_cases h0 : checkB b = 0
  · have h := c_opened2 b hs h0
    rw [h0]
    exact h.mono (Ty.tup2_sub (Ty.sub_when rfl fun _ => Ty.sub_refl _) (Ty.sub_refl _))
  · exact (c_opened1 b hs h0).mono (Ty.tup2_sub (Ty.sub_when rfl fun h => by simp [h0] at h) (Ty.sub_refl _))
set_option maxRecDepth 100000 in
theorem c_turnings1 (d : Desk) (hs : d.b.Small) (h6 : d.b.lots.length ≤ 6) (p : Pl) : CtrI Tryz.prog 134 (fun l => [Ty.ex (yv l), Ty.pp [Ty.pe DeskE d 0], Ty.pp (plT p)]) ((turnsL d.b p).map turEnc) (Ty.tup []) (Ty.tup []) := by
  refine fnI_intro Tryz.func134 rfl (by decide) Tryz.ntmps134 (fun _ => by exact Nat.le_of_ble_eq_true rfl) (fun _ => ⟨rfl, rfl⟩) fun l J Jx hJ hJx hY w0 M0 => ?_
  have hs1 := hs.sizes
  refine t_seq ?_
  refine t_region ?_
  refine r_load_pp rfl rfl rfl rfl ?_
  refine r_nilCheck_pe rfl ?_
  refine r_field_pe rfl rfl rfl rfl rfl (by decide) ?_
  refine r_field_pe rfl rfl rfl rfl rfl (by decide) ?_
  refine r_load_pe rfl rfl rfl rfl ?_
  refine r_len rfl rfl rfl ?_
  refine mvI rfl ?_
  refine r_nil ?_
  refine i_then ?_
  refine t_block ?_
  refine t_loop (fun (k : {k : Nat // k ≤ d.b.sizes.length}) => live [(0, Ty.ex (yv l)), (1, Ty.pp [Ty.pe DeskE d 0]), (2, Ty.pp (plT p)), (11, Ty.int .i64 d.b.sizes.length), (12, Ty.int .i64 (k.1 : Nat))] [(0, CJ (hJ (turnsUp d.b p k.1).length))]) (fun k => d.b.sizes.length - k.1) (⟨0, by omega⟩) ?_ fun k => ?_
  · (refine Ent.mk' ?_ ?_ <;> (repeat' (first | exact allSub_zero | exact allTags_nil | refine allSub_succ' ?_ (Ty.sub_any _) | refine allSub_succ' ?_ (Ty.sub_refl _) | refine allTags_cons rfl (Cont.sub_refl _) ?_)))
  ·
    refine t_seq ?_
    refine t_region ?_
    refine r_bin rfl rfl rfl ?_
    refine r_nil ?_
    refine i_then ?_
    refine t_seq ?_
    refine t_cond_dec rfl (fun hc1 => ?_) (fun hc1 => ?_)
    ·
      refine t_skip ?_
      refine i_then ?_
      refine t_seq ?_
      refine t_block ?_
      refine t_seq ?_
      refine t_region ?_
      refine mvI rfl ?_
      refine asI rfl ?_
      refine r_nil ?_
      refine i_then ?_
      refine t_seq ?_
      refine t_seq ?_
      refine t_region ?_
      refine r_load_pp rfl rfl rfl rfl ?_
      refine r_load_ppN rfl rfl rfl (by exact Nat.le_of_ble_eq_true rfl) ?_
      refine mvI rfl ?_
      refine r_call (c_taken d h6 p (k.1 : Nat)) rfl rfl rfl rfl rfl ?_
      refine r_nil ?_
      refine i_then ?_
      refine t_cond rfl (fun hc2 => ?_) (fun hc2 => ?_)
      ·
        refine t_exit ?_
        refine i_then_exit ?_
        refine i_block_exit rfl ?_
        refine i_then ?_
        refine t_region ?_
        refine r_add rfl rfl (by omega) (by omega) ?_
        refine mvI rfl ?_
        refine r_nil ?_
        refine i_round (⟨k.1 + 1, by omega⟩) ?_ (by show d.b.sizes.length - (k.1 + 1) < d.b.sizes.length - k.1; omega)
        (refine Ent.mk' ?_ ?_ <;> (repeat' (first | exact allSub_zero | exact allTags_nil | refine allSub_succ' ?_ (Ty.sub_any _) | refine allSub_succ' ?_ (Ty.sub_refl _) | refine allTags_cons rfl ?_ ?_)))
        all_goals skip
        exact Cont.sub_eq (congrArg (fun n => CJ (hJ n)) (by show (turnsUp d.b p k.1).length = (turnsUp d.b p (k.1 + 1)).length; rw [turnsUp_succ, turnsAt_no hc2, List.append_nil]))
      ·
        refine t_skip ?_
        refine i_then ?_
        refine t_seq ?_
        refine t_region ?_
        refine r_load_pp rfl rfl rfl rfl ?_
        refine r_nilCheck_pe rfl ?_
        refine r_field_pe rfl rfl rfl rfl rfl (by decide) ?_
        refine r_field_pe rfl rfl rfl rfl rfl (by decide) ?_
        refine r_load_pe rfl rfl rfl rfl ?_
        refine r_len rfl rfl rfl ?_
        refine mvI rfl ?_
        refine r_nil ?_
        refine i_then ?_
        refine t_block ?_
        refine t_loop (fun (m : {m : Nat // m ≤ d.b.lots.length}) => live [(0, Ty.ex (yv l)), (1, Ty.pp [Ty.pe DeskE d 0]), (2, Ty.pp (plT p)), (4, Ty.int .i64 (k.1 : Nat)), (11, Ty.int .i64 d.b.sizes.length), (12, Ty.int .i64 (k.1 : Nat)), (24, Ty.int .i64 d.b.lots.length), (25, Ty.int .i64 (m.1 : Nat))] [(0, CJ (hJ ((turnsUp d.b p k.1).length + (lotsUp d.b k.1 m.1).length)))]) (fun m => d.b.lots.length - m.1) (⟨0, by omega⟩) ?_ fun m => ?_
        · (refine Ent.mk' ?_ ?_ <;> (repeat' (first | exact allSub_zero | exact allTags_nil | refine allSub_succ' ?_ (Ty.sub_any _) | refine allSub_succ' ?_ (Ty.sub_refl _) | refine allTags_cons rfl (Cont.sub_refl _) ?_)))
        ·
          refine t_seq ?_
          refine t_region ?_
          refine r_bin rfl rfl rfl ?_
          refine r_nil ?_
          refine i_then ?_
          refine t_seq ?_
          refine t_cond_dec rfl (fun hc3 => ?_) (fun hc3 => ?_)
          ·
            refine t_skip ?_
            refine i_then ?_
            refine t_seq ?_
            refine t_block ?_
            refine t_seq ?_
            refine t_region ?_
            refine mvI rfl ?_
            refine asI rfl ?_
            refine r_nil ?_
            refine i_then ?_
            refine t_seq ?_
            cases hsp : (d.b.hold k.1 m.1)
            ·
              refine t_region ?_
              refine r_load_pp rfl rfl rfl rfl ?_
              refine r_nilCheck_pe rfl ?_
              refine r_field_pe rfl rfl rfl rfl rfl (by decide) ?_
              refine r_load_peN rfl rfl rfl rfl rfl ?_
              refine mvI rfl ?_
              refine mvI rfl ?_
              refine r_call (c_holds_at d.b k.1 m.1 (by omega) (by omega) hsp) rfl rfl rfl rfl rfl ?_
              refine mvB rfl ?_
              refine r_off rfl rfl rfl rfl ?_
              refine r_off rfl rfl rfl rfl ?_
              refine r_off rfl rfl rfl rfl ?_
              refine r_off rfl rfl rfl rfl ?_
              refine r_off rfl rfl rfl rfl ?_
              refine r_off rfl rfl rfl rfl ?_
              refine r_pick (ty := Ty.bool false) rfl rfl rfl (fun h => Bool.noConfusion h) (fun _ => Ty.sub_refl _) ?_
              refine r_nil ?_
              refine i_then ?_
              refine t_cond_ff rfl (rfl) ?_
              refine t_skip ?_
              refine i_block ?_
              refine i_then ?_
              refine t_region ?_
              refine r_add rfl rfl (by omega) (by omega) ?_
              refine mvI rfl ?_
              refine r_nil ?_
              refine i_round (⟨m.1 + 1, by omega⟩) ?_ (by show d.b.lots.length - (m.1 + 1) < d.b.lots.length - m.1; omega)
              (refine Ent.mk' ?_ ?_ <;> (repeat' (first | exact allSub_zero | exact allTags_nil | refine allSub_succ' ?_ (Ty.sub_any _) | refine allSub_succ' ?_ (Ty.sub_refl _) | refine allTags_cons rfl ?_ ?_)))
              all_goals skip
              exact Cont.sub_eq (congrArg (fun n => CJ (hJ n)) (by show _ + _ = (turnsUp d.b p k.1).length + (lotsUp d.b k.1 (m.1 + 1)).length; rw [lotsUp_no hsp]))
            ·
              refine t_regionYn 12 rfl rfl ?_
              refine r_load_pp rfl rfl rfl rfl ?_
              refine r_nilCheck_pe rfl ?_
              refine r_field_pe rfl rfl rfl rfl rfl (by decide) ?_
              refine r_load_peN rfl rfl rfl rfl rfl ?_
              refine mvI rfl ?_
              refine mvI rfl ?_
              refine r_call (c_holds_at d.b k.1 m.1 (by omega) (by omega) hsp) rfl rfl rfl rfl rfl ?_
              refine mvB rfl ?_
              (refine r_on rfl rfl rfl (by apply opT_of; (refine mvX rfl ?_); refine r_nil ?_; exact rfl) ?_)
              (refine r_on rfl rfl rfl (by apply opT_of; (refine mvI rfl ?_); refine r_nil ?_; exact rfl) ?_)
              (refine r_on rfl rfl rfl (by apply opT_of; (refine mvI rfl ?_); refine r_nil ?_; exact rfl) ?_)
              (refine r_on rfl rfl rfl (by apply opT_of; (refine r_build rfl rfl (by exact List.cons_ne_nil _ _) rfl (by repeat (first | exact (Parts.nil : Parts _ _ [] _) | (show Parts _ _ ((_, _) :: _) _; apply Parts.one; (· exact (rfl : _ = Ty.int _ _)); (· exact rfl)))) (by exact (rfl : _ = some [_, _])) ?_); refine r_nil ?_; exact rfl) ?_)
              refine r_nil ?_
              refine ⟨_, _, opY_on rfl rfl rfl (opY_yield hJ hJx hY rfl rfl rfl rfl rfl (get_enc (turns_nth (by omega) hc2 (by omega) hsp).1 (congrArg turEnc (turns_nth (by omega) hc2 (by omega) hsp).2)) rfl), ?_, ?_⟩
              ·
                (refine r_on rfl rfl rfl (by apply opT_of; (refine r_not rfl ?_); refine r_nil ?_; exact rfl) ?_)
                refine r_pick (ty := Ty.bool false) rfl rfl rfl (fun _ => (Ty.sub_refl _ : Ty.Sub (Ty.bool (!true)) _)) (fun h => Bool.noConfusion h) ?_
                refine r_nil ?_
                refine i_then ?_
                refine t_cond_ff rfl (rfl) ?_
                refine t_skip ?_
                refine i_block ?_
                refine i_then ?_
                refine t_region ?_
                refine r_add rfl rfl (by omega) (by omega) ?_
                refine mvI rfl ?_
                refine r_nil ?_
                refine i_round (⟨m.1 + 1, by omega⟩) ?_ (by show d.b.lots.length - (m.1 + 1) < d.b.lots.length - m.1; omega)
                (refine Ent.mk' ?_ ?_ <;> (repeat' (first | exact allSub_zero | exact allTags_nil | refine allSub_succ' ?_ (Ty.sub_any _) | refine allSub_succ' ?_ (Ty.sub_refl _) | refine allTags_cons rfl ?_ ?_)))
                all_goals skip
                exact Cont.sub_eq (congrArg (fun n => CJ (hJ n)) (by show _ + _ + 1 = (turnsUp d.b p k.1).length + (lotsUp d.b k.1 (m.1 + 1)).length; rw [lotsUp_yes hsp, List.length_append]; rfl))
              ·
                (refine r_on rfl rfl rfl (by apply opT_of; (refine r_not rfl ?_); refine r_nil ?_; exact rfl) ?_)
                refine r_pick (ty := Ty.bool true) rfl rfl rfl (fun _ => (Ty.sub_refl _ : Ty.Sub (Ty.bool (!false)) _)) (fun h => Bool.noConfusion h) ?_
                refine r_nil ?_
                refine i_then ?_
                refine t_cond_tt rfl (rfl) ?_
                refine t_ret ?_
                refine i_block_ret ?_
                refine i_then_ret ?_
                refine i_then_ret ?_
                refine i_block_ret ?_
                refine i_block_ret ?_
                refine i_then_ret ?_
                refine i_then_ret ?_
                refine i_block_ret ?_
                exact y_ret0x rfl rfl
          ·
            refine t_exit ?_
            refine i_then_exit ?_
            refine i_then_exit ?_
            refine i_block_exit rfl ?_
            refine i_block ?_
            refine i_then ?_
            refine t_region ?_
            refine r_add rfl rfl (by omega) (by omega) ?_
            refine mvI rfl ?_
            refine r_nil ?_
            refine i_round (⟨k.1 + 1, by omega⟩) ?_ (by show d.b.sizes.length - (k.1 + 1) < d.b.sizes.length - k.1; omega)
            (refine Ent.mk' ?_ ?_ <;> (repeat' (first | exact allSub_zero | exact allTags_nil | refine allSub_succ' ?_ (Ty.sub_any _) | refine allSub_succ' ?_ (Ty.sub_refl _) | refine allTags_cons rfl ?_ ?_)))
            all_goals skip
            exact Cont.sub_eq (congrArg (fun n => CJ (hJ n)) (by show (turnsUp d.b p k.1).length + (lotsUp d.b k.1 m.1).length = (turnsUp d.b p (k.1 + 1)).length; rw [turnsUp_succ, turnsAt_yes hc2, List.length_append, show m.1 = d.b.lots.length by have := m.2; omega]))
    ·
      refine t_exit ?_
      refine i_then_exit ?_
      refine i_then_exit ?_
      refine i_block_exit rfl ?_
      refine i_end ?_
      exact y_ret0e (hJ := hJ) (by rw [List.length_map, show k.1 = d.b.sizes.length by have := k.2; omega]; rfl) rfl rfl
set_option maxRecDepth 100000 in
theorem c_turnings (d : Desk) (p : Pl) : Ctr Tryz.prog 121 [Ty.pe DeskE d 0, Ty.agg (plT p)] (Ty.clo 134 [Ty.pp [Ty.pe DeskE d 0], Ty.pp (plT p)]) := by
  refine fn_intro Tryz.func121 rfl (by decide) Tryz.ntmps121 (by exact Nat.le_of_ble_eq_true rfl) fun w0 M0 => ?_
  refine t_seq ?_
  refine t_region ?_
  refine r_box_one (by exact (rfl : _ = Ty.pe _ _ _)) rfl ?_
  refine r_box_agg rfl ?_
  refine asX rfl ?_
  refine r_nil ?_
  refine i_then ?_
  refine t_seq ?_
  refine t_region ?_
  refine r_makeFunc rfl ?_
  refine asF rfl ?_
  refine r_nil ?_
  refine i_then ?_
  refine t_ret ?_
  refine i_rp1 rfl rfl ?_
  all_goals exact ret_refl rfl rfl
  skip
end Go.Proofs.YtpnndljmhpepgaaGreat

namespace Go.Proofs.YtpnndljmhpepgaaGreat
open Go Go.T
theorem allL_len : ∀ n, (allL n).length = 7 ^ n
  | 0 => rfl
  | n + 1 => by
    show ((List.range 7).flatMap fun (k : Nat) => (allL n).map fun l => (k : Int) :: l).length = _
    rw [show List.range 7 = [0, 1, 2, 3, 4, 5, 6] from rfl]
    simp only [List.flatMap_cons, List.flatMap_nil, List.length_append, List.length_map, List.length_nil, allL_len n, Nat.pow_succ]
    omega
theorem placesN_eq : placesN = 117649 := by
  unfold placesN; rw [allL_len]
def headP (y : St) : Pl := nth (rowAt y.queue y.now) 0
def restP (y : St) : List Pl := (rowAt y.queue y.now).drop 1
theorem row_head {y : St} (h : 0 < (rowAt y.queue y.now).length) : rowAt y.queue y.now = headP y :: restP y := by
  have := drop_nth h
  rw [List.drop_zero] at this
  exact this
def popY (y : St) : St := popped y (restP y)
def markY (y : St) : St := marked (popY y) (headP y)
structure YIx (b : Barn) (c : Tur → Int) (all : Bool) (x y : St) : Prop where
  inv : Inv b c all (turnsL b) 0 y
  same : SameS b c all y
  le : muS y ≤ muS x
  lt : y.left ≤ 0 → muS y < muS x
  now : y.now = x.now
variable {b : Barn} {c : Tur → Int} {all : Bool} {x y : St}
theorem Inv.now_le {F : Pl → List Tur} {R : Int} (h : Inv b c all F R x) (hr : b.Right) (hl : 0 < x.left) : x.now ≤ 300 * placesN := by
  cases hq : rowAt x.queue x.now with
  | nil => have := h.far hr hl hq; omega
  | cons p r =>
    have h1 := (h.que x.now p (by rw [hq]; exact List.mem_cons_self)).2.1
    have h2 := h.few hr
    omega
theorem Inv.left_le {F : Pl → List Tur} {R : Int} (h : Inv b c all F R x) (hr : b.Right) : x.left + R ≤ 1 + 42 * placesN := by
  have h1 := h.lim
  have h2 := h.few hr
  omega
theorem Inv.row_le {F : Pl → List Tur} {R : Int} (h : Inv b c all F R x) (hr : b.Right) (m : Int) : (rowAt x.queue m).length + R ≤ 1 + 42 * placesN := by
  have h1 := h.left_le hr
  have h2 := cntQ_row x.queue m
  have h3 := h.left
  omega
theorem yix_start (h : Inv b c all (turnsL b) 0 x) (hs : SameS b c all x) (hl : 0 < x.left) : YIx b c all x x := ⟨h, hs, Nat.le_refl _, fun h => by omega, rfl⟩
theorem YIx.pos (h : YIx b c all x y) (hq : 0 < (rowAt y.queue y.now).length) : 0 < y.left := pos_of_row h.inv (row_head hq)
theorem YIx.old (h : YIx b c all x y) (hq : 0 < (rowAt y.queue y.now).length) (hd : doneB (popY y) (headP y) = true) : YIx b c all x (popY y) := by
  have hr := row_head hq
  have hm : muS (popY y) < muS y := mu_old h.inv hr
  have hl := h.le
  exact ⟨pop_done h.inv hr hd, h.same.step (step_old (h.pos hq) hr hd), by omega, fun _ => by omega, h.now⟩
theorem YIx.mark (h : YIx b c all x y) (hq : 0 < (rowAt y.queue y.now).length) (hd : doneB (popY y) (headP y) = false) (hm : (!all && madeP b (headP y)) = false) : Inv b c all (upTo b (headP y) 0) 42 (markY y) ∧ At b (headP y) (markY y) :=
  mark_inv h.inv (row_head hq) hd (fun ha => by rw [ha] at hm; simpa using hm)
theorem YIx.new (h : YIx b c all x y) (hr : b.Right) (hc : CostOk b c) (hq : 0 < (rowAt y.queue y.now).length) (hd : doneB (popY y) (headP y) = false) (hm : (!all && madeP b (headP y)) = false) : YIx b c all x (foldK b c (headP y) (markY y) (turnsL b (headP y)).length) := by
  have he := row_head hq
  have hlt : muS (foldK b c (headP y) (markY y) (turnsL b (headP y)).length) < muS y := mu_new h.inv hr he hd (h.mark hq hd hm).1
  have hl := h.le
  exact ⟨new_inv hr hc h.inv he hd hm, h.same.step (step_new (h.pos hq) he hd hm), by omega, fun _ => by omega, by rw [foldK_now]; exact h.now⟩
theorem YIx.found (h : YIx b c all x y) (hq : 0 < (rowAt y.queue y.now).length) (hd : doneB (popY y) (headP y) = false) (hm : (!all && madeP b (headP y)) = true) : searchM b c all = ⟨y.ways, headP y, true⟩ :=
  h.same.stop (step_found (h.pos hq) (row_head hq) hd hm)
theorem same_later (h : Inv b c all (turnsL b) 0 y) (hs : SameS b c all y) (hq : rowAt y.queue y.now = []) : SameS b c all (later y) := by
  rcases Int.lt_or_le 0 y.left with hl | hl
  · exact hs.step (step_later hl hq)
  · intro f hf
    have h1 : Ends b c all (later y) ⟨y.ways, pl0, false⟩ := .stop (step_end hl)
    rw [hf.det h1]
    exact hs.stop (step_end hl)
theorem YIx.later (h : YIx b c all x y) (hr : b.Right) (hq : rowAt y.queue y.now = []) : Inv b c all (turnsL b) 0 (later y) ∧ SameS b c all (later y) ∧ muS (later y) < muS x := by
  refine ⟨later_inv h.inv hq, same_later h.inv h.same hq, ?_⟩
  have h1 := h.le
  rcases Int.lt_or_le 0 y.left with hl | hl
  · have := mu_later h.inv hr hl hq; omega
  · have := h.lt hl
    have := mu_later_le y; omega
theorem pl_moved (p : Pl) (t : Tur) (h : t.lot.toNat < 6) : (plT p).set (0 + t.lot.toNat * 1) (Ty.int .i64 t.aim) = plT (moved p t) := by
  rw [show 0 + t.lot.toNat * 1 = t.lot.toNat by omega]; exact plT_set p t.aim h
theorem foldK_yes {p : Pl} {z : St} {k : Nat} (hk : k < (turnsL b p).length) (h : metB (foldK b c p z k).ways (moved p (nth (turnsL b p) k)) ((foldK b c p z k).now + c (nth (turnsL b p) k)) = true) : foldK b c p z (k + 1) = foldK b c p z k := by
  rw [foldK_succ hk, relax_yes h]
theorem foldK_no {p : Pl} {z : St} {k : Nat} (hk : k < (turnsL b p).length) (h : metB (foldK b c p z k).ways (moved p (nth (turnsL b p) k)) ((foldK b c p z k).now + c (nth (turnsL b p) k)) = false) :
    (foldK b c p z (k + 1)).ways = mput (foldK b c p z k).ways (moved p (nth (turnsL b p) k)) ⟨p, [nth (turnsL b p) k], (foldK b c p z k).now + c (nth (turnsL b p) k)⟩ ∧
    (foldK b c p z (k + 1)).queue = mput (foldK b c p z k).queue ((foldK b c p z k).now + c (nth (turnsL b p) k)) (rowAt (foldK b c p z k).queue ((foldK b c p z k).now + c (nth (turnsL b p) k)) ++ [moved p (nth (turnsL b p) k)]) ∧
    (foldK b c p z (k + 1)).left = (foldK b c p z k).left + 1 := by
  rw [foldK_succ hk, relax_no h]; exact ⟨rfl, rfl, rfl⟩
theorem fk_yes {p : Pl} {z : St} {k : Nat} {n : Int} (hk : k < (turnsL b p).length) (hn : (foldK b c p z k).now = n) (h : metB (foldK b c p z k).ways (moved p (nth (turnsL b p) k)) (n + c (nth (turnsL b p) k)) = true) : foldK b c p z k = foldK b c p z (k + 1) :=
  (foldK_yes hk (by rw [hn]; exact h)).symm
theorem fk_no {p : Pl} {z : St} {k : Nat} {n : Int} (hk : k < (turnsL b p).length) (hn : (foldK b c p z k).now = n) (h : metB (foldK b c p z k).ways (moved p (nth (turnsL b p) k)) (n + c (nth (turnsL b p) k)) = false) :
    mput (foldK b c p z k).ways (moved p (nth (turnsL b p) k)) ⟨p, [nth (turnsL b p) k], n + c (nth (turnsL b p) k)⟩ = (foldK b c p z (k + 1)).ways ∧
    mput (foldK b c p z k).queue (n + c (nth (turnsL b p) k)) (rowAt (foldK b c p z k).queue (n + c (nth (turnsL b p) k)) ++ [moved p (nth (turnsL b p) k)]) = (foldK b c p z (k + 1)).queue ∧
    (foldK b c p z k).left + 1 = (foldK b c p z (k + 1)).left := by
  obtain ⟨h1, h2, h3⟩ := foldK_no hk (by rw [hn]; exact h)
  rw [h1, h2, h3, hn]; exact ⟨rfl, rfl, rfl⟩
end Go.Proofs.YtpnndljmhpepgaaGreat

namespace Go.Proofs.YtpnndljmhpepgaaGreat
open Go Go.T
theorem ext_nth {α : Type} [Inhabited α] {a b : List α} (hl : a.length = b.length) (h : ∀ i, i < a.length → nth a i = nth b i) : a = b :=
  List.ext_getElem hl fun i h1 h2 => by rw [← nth_lt h1, ← nth_lt h2]; exact h i h1
theorem nthA_set {α : Type} [Inhabited α] {l : List α} {i j : Nat} {v : α} (h : j < l.length) : nth (l.set i v) j = if i = j then v else nth l j := by
  unfold nth
  rw [List.getD_eq_getElem?_getD, List.getD_eq_getElem?_getD, List.getElem?_set]
  by_cases e : i = j
  · subst e; rw [if_pos rfl, if_pos rfl, if_pos h]; rfl
  · rw [if_neg e, if_neg e]
section
variable {α : Type} [Inhabited α]
def revUp (xs : List α) (k : Nat) : List α := (List.range xs.length).map fun p => if p < k ∨ xs.length ≤ p + k then nth xs (xs.length - 1 - p) else nth xs p
theorem revUp_len (xs : List α) (k : Nat) : (revUp xs k).length = xs.length := by unfold revUp; rw [List.length_map, List.length_range]
theorem revUp_nth {xs : List α} {k p : Nat} (h : p < xs.length) : nth (revUp xs k) p = if p < k ∨ xs.length ≤ p + k then nth xs (xs.length - 1 - p) else nth xs p := by
  rw [nth_lt (by rw [revUp_len]; exact h)]; unfold revUp; rw [List.getElem_map, List.getElem_range]
theorem revUp_zero (xs : List α) : revUp xs 0 = xs := ext_nth (revUp_len _ _) fun i hi => by
  rw [revUp_len] at hi
  rw [revUp_nth hi, if_neg (by omega)]
theorem revUp_succ {xs : List α} {k : Nat} (h : k + 1 < xs.length - k) : ((revUp xs k).set k (nth (revUp xs k) (xs.length - 1 - k))).set (xs.length - 1 - k) (nth (revUp xs k) k) = revUp xs (k + 1) := by
  have hl := revUp_len xs k
  refine ext_nth (by rw [List.length_set, List.length_set, hl, revUp_len]) fun i hi => ?_
  rw [List.length_set, List.length_set, hl] at hi
  rw [nthA_set (by rw [List.length_set, hl]; exact hi), nthA_set (by rw [hl]; exact hi), revUp_nth hi, revUp_nth hi, revUp_nth (by omega), revUp_nth (by omega)]
  by_cases e1 : xs.length - 1 - k = i
  · rw [if_pos e1, if_neg (by omega), if_pos (by omega), ← e1]; congr 1; omega
  · rw [if_neg e1]
    by_cases e2 : k = i
    · rw [if_pos e2, if_neg (by omega), if_pos (by omega), ← e2]
    · rw [if_neg e2]
      by_cases e3 : i < k ∨ xs.length ≤ i + k
      · rw [if_pos e3, if_pos (by omega)]
      · rw [if_neg e3, if_neg (by omega)]
theorem revUp_end {xs : List α} {k : Nat} (h : ¬ k + 1 < xs.length - k) : revUp xs k = xs.reverse := by
  refine ext_nth (by rw [revUp_len, List.length_reverse]) fun i hi => ?_
  rw [revUp_len] at hi
  rw [revUp_nth hi, nth_lt (xs := xs.reverse) (by rw [List.length_reverse]; exact hi), List.getElem_reverse, ← nth_lt]
  by_cases e : i < k ∨ xs.length ≤ i + k
  · rw [if_pos e]
  · rw [if_neg e]; congr 1; omega
end
theorem flat_take_le {α : Type} (l : List (List α)) (k : Nat) : (l.take k).flatten.length ≤ l.flatten.length := by
  conv => rhs; rw [← List.take_append_drop k l, List.flatten_append, List.length_append]
  omega
theorem flat_take_succ {α : Type} {l : List (List α)} {k : Nat} (h : k < l.length) : (l.take (k + 1)).flatten = (l.take k).flatten ++ nth l k := by
  rw [take_nth h, List.flatten_append]; simp
inductive Chain (ways : List (Pl × Way)) (first : Pl) : Pl → List (List Tur) → Prop
  | nil : Chain ways first first []
  | snoc {p : Pl} {w : Way} {A : List (List Tur)} : p ≠ first → mget ways p = some w → Chain ways first w.frm A → Chain ways first p (A ++ [w.byT])
theorem Chain.at_first {ways : List (Pl × Way)} {first : Pl} {A : List (List Tur)} (h : Chain ways first first A) : A = [] := by
  generalize hp : first = p at h
  have : ∀ {q A}, Chain ways first q A → q = first → A = [] := fun {q A} h e => by
    cases h with
    | nil => rfl
    | snoc h1 _ _ => exact absurd e h1
  subst hp
  exact this h rfl
theorem Chain.step {ways : List (Pl × Way)} {first p : Pl} {A : List (List Tur)} (h : Chain ways first p A) (hp : p ≠ first) : Chain ways first ((mget ways p).getD way0).frm A.dropLast ∧ A = A.dropLast ++ [((mget ways p).getD way0).byT] := by
  cases h with
  | nil => exact absurd rfl hp
  | snoc h1 h2 h3 => rw [h2, List.dropLast_concat]; exact ⟨h3, rfl⟩
theorem Chain.det {ways : List (Pl × Way)} {first : Pl} : ∀ {p : Pl} {A B : List (List Tur)}, Chain ways first p A → Chain ways first p B → A = B := by
  intro p A B h
  induction h generalizing B with
  | nil => exact fun h' => h'.at_first.symm
  | snoc h1 h2 _ ih =>
    intro h'
    cases h' with
    | nil => exact absurd rfl h1
    | snoc g1 g2 g3 => rw [h2] at g2; injection g2 with g2; subst g2; rw [ih g3]
open Classical in
noncomputable def chainM (ways : List (Pl × Way)) (first p : Pl) : List (List Tur) := if h : ∃ A, Chain ways first p A then h.choose else []
theorem chainM_spec {ways : List (Pl × Way)} {first p : Pl} {A : List (List Tur)} (h : Chain ways first p A) : chainM ways first p = A := by
  unfold chainM
  rw [dif_pos ⟨A, h⟩]
  exact (Exists.choose_spec (⟨A, h⟩ : ∃ A, Chain ways first p A)).det h
variable {b : Barn} {c : Tur → Int} {all : Bool}
theorem Found.Spec.chain {f : Found} (h : f.Spec b c all) (hr : b.Right) (hc : CostOk b c) : ∀ (n : Nat) (p : Pl) (w : Way), mget f.ways p = some w → w.all.toNat ≤ n →
    ∃ A, Chain f.ways (firstP b) p A ∧ goP b (firstP b) A.flatten = some p ∧ costL c A.flatten = w.all ∧ A.flatten.length = A.length ∧ (A.length : Int) ≤ w.all := by
  intro n
  induction n with
  | zero =>
    intro p w hw hn
    rcases h.via p w hw with e | ⟨t, w', h1, h2, h3, h4, h5⟩
    · subst e
      rw [h.start] at hw; injection hw with hw; subst hw
      exact ⟨[], .nil, rfl, rfl, rfl, Int.le_refl _⟩
    · obtain ⟨l, hl, hcl⟩ := h.walk _ _ h4
      have := cost_pos hc l hl
      have := hc.at h2
      omega
  | succ n ih =>
    intro p w hw hn
    by_cases e : p = firstP b
    · subst e
      rw [h.start] at hw; injection hw with hw; subst hw
      exact ⟨[], .nil, rfl, rfl, rfl, Int.le_refl _⟩
    rcases h.via p w hw with e' | ⟨t, w', h1, h2, h3, h4, h5⟩
    · exact absurd e' e
    · have := hc.at h2
      obtain ⟨l, hl, hcl⟩ := h.walk _ _ h4
      have := cost_pos hc l hl
      obtain ⟨A, g1, g2, g3, g4, g5⟩ := ih w.frm w' h4 (by omega)
      refine ⟨A ++ [w.byT], .snoc e hw g1, ?_, ?_, ?_, ?_⟩
      · rw [List.flatten_append, h1, h3]; simp only [List.flatten_cons, List.flatten_nil, List.append_nil]; exact goP_snoc g2 h2
      · rw [List.flatten_append, h1, costL_append, g3]; simp only [List.flatten_cons, List.flatten_nil, List.append_nil]; rw [costL_one]; omega
      · rw [List.flatten_append, h1]; simp [g4]
      · rw [List.length_append]; simp; omega
noncomputable def waysV (b : Barn) (c : Tur → Int) : List (List Tur) := chainM (searchM b c false).ways (firstP b) (searchM b c false).last
noncomputable def planV (b : Barn) (c : Tur → Int) : List Tur := if (searchM b c false).is = true then (waysV b c).flatten else []
noncomputable def costV (b : Barn) (c : Tur → Int) : Int := if (searchM b c false).is = true then ((mget (searchM b c false).ways (searchM b c false).last).getD way0).all else 0
structure PlanSpec (b : Barn) (c : Tur → Int) : Prop where
  chain : (searchM b c false).is = true → Chain (searchM b c false).ways (firstP b) (searchM b c false).last (waysV b c)
  len : (searchM b c false).is = true → (waysV b c).length ≤ 40000000 ∧ (waysV b c).flatten.length = (waysV b c).length
  yes : (searchM b c false).is = true → ∃ q, goP b (firstP b) (planV b c) = some q ∧ madeP b q = true ∧ costL c (planV b c) = costV b c ∧ ∀ l q, goP b (firstP b) l = some q → madeP b q = true → costV b c ≤ costL c l
  no : (searchM b c false).is = false → ∀ l q, goP b (firstP b) l = some q → madeP b q = false
theorem plan_spec (hr : b.Right) (hc : CostOk b c) : PlanSpec b c := by
  obtain ⟨h, _⟩ := search_spec hr hc false
  have key : (searchM b c false).is = true → ∃ w, mget (searchM b c false).ways (searchM b c false).last = some w ∧ Chain (searchM b c false).ways (firstP b) (searchM b c false).last (waysV b c) ∧ goP b (firstP b) (waysV b c).flatten = some (searchM b c false).last ∧ costL c (waysV b c).flatten = w.all ∧ (waysV b c).flatten.length = (waysV b c).length ∧ ((waysV b c).length : Int) ≤ w.all := fun hi => by
    obtain ⟨_, w, hw, _⟩ := h.yes hi
    obtain ⟨A, g1, g2, g3, g4, g5⟩ := h.chain hr hc _ _ w hw (Nat.le_refl _)
    have e : waysV b c = A := chainM_spec g1
    rw [e]; exact ⟨w, hw, g1, g2, g3, g4, g5⟩
  refine ⟨fun hi => ?_, fun hi => ?_, fun hi => ?_, fun hi => h.no hi rfl⟩
  · obtain ⟨w, hw, g1, _⟩ := key hi; exact g1
  · obtain ⟨w, hw, _, _, _, g4, g5⟩ := key hi
    have h1 := h.cap _ _ hw
    have h2 := placesN_eq
    exact ⟨by omega, g4⟩
  · obtain ⟨w, hw, _, g2, g3, _, _⟩ := key hi
    obtain ⟨h1, w', hw', h2⟩ := h.yes hi
    rw [hw] at hw'; injection hw' with hw'; subst hw'
    have e1 : planV b c = (waysV b c).flatten := if_pos hi
    have e2 : costV b c = w.all := by unfold costV; rw [if_pos hi, hw]; rfl
    exact ⟨_, by rw [e1]; exact g2, h1, by rw [e1, e2]; exact g3, fun l q hl hq => by rw [e2]; exact h2 l q hl hq⟩
noncomputable def planE (b : Barn) (c : Tur → Int) : Int := if checkB b = 0 then if (searchM b c false).is = true then 0 else 7 else checkB b
noncomputable def planR (b : Barn) (c : Tur → Int) : List Tur := if checkB b = 0 then planV b c else []
noncomputable def costR (b : Barn) (c : Tur → Int) : Int := if checkB b = 0 then costV b c else 0
def oneC (_ : Tur) : Int := 1
def sackC (b : Barn) (t : Tur) : Int := (nth b.lots t.lot.toNat).sacks
theorem one_ok (b : Barn) : CostOk b oneC := fun t _ _ => by unfold oneC; omega
theorem sack_ok {b : Barn} (h : b.Right) : CostOk b (sackC b) := fun t h1 h2 => h.sacks _ (nth_mem (by omega))
noncomputable def placesV (b : Barn) : Int := if checkB b = 0 then ((searchM b oneC true).ways.length : Nat) else 0
end Go.Proofs.YtpnndljmhpepgaaGreat

namespace Go.Proofs.YtpnndljmhpepgaaGreat
open Go Go.T
set_option maxHeartbeats 4000000
attribute [local irreducible] revUp
attribute [local irreducible] dInt dBool dSl dPp dPtr dAgg dTup dClo dAny dEx dStr dGd dCells dVec dVs dRow dOp nth Tri Into TOps Ctr bodyPost Exit.then Exit.inBlock Code.wp Code.wpIn dWhen dPa dPe dAo dArr dMp dPm dMap dCJ CtrG CtrI OpY keepPost iterPost bodyPostM roundQ
set_option maxRecDepth 100000 in
theorem c_Grow_tur (n : Nat) (h : n ≤ 400000000) : CtrG Tryz.prog 131 [] [] [Ty.ex (.slice none 0 0), Ty.int .i64 (n : Nat)] [] (Ty.row TurE 37 23 []) := by
  refine fnG_intro Tryz.func131 rfl (by decide) Tryz.ntmps131 (by exact Nat.le_of_ble_eq_true rfl) fun w0 M0 => ?_
  refine t_seq ?_
  refine t_region ?_
  refine asX rfl ?_
  refine r_nil ?_
  refine i_then ?_
  refine t_seq ?_
  refine t_seq ?_
  refine t_region ?_
  refine mvI rfl ?_
  refine r_bin rfl rfl rfl ?_
  refine r_nil ?_
  refine i_then ?_
  refine t_cond_ff rfl (by exact decide_eq_false (by omega)) ?_
  refine t_skip ?_
  refine i_then ?_
  refine t_join (J := live [(0, Ty.row TurE 37 23 [])] []) ?_ ?_
  ·
    refine t_seq ?_
    refine t_region ?_
    refine mvI rfl ?_
    refine mvX rfl ?_
    refine r_cap_nil rfl rfl rfl ?_
    refine mvX rfl ?_
    refine r_len_nil rfl rfl rfl ?_
    refine r_sub rfl rfl (by omega) (by omega) ?_
    refine r_sub rfl rfl (by omega) (by omega) ?_
    refine asI rfl ?_
    refine r_nil ?_
    refine i_then ?_
    refine t_seq ?_
    refine t_region ?_
    refine mvI rfl ?_
    refine r_bin rfl rfl rfl ?_
    refine r_nil ?_
    refine i_then ?_
    refine t_cond_dec rfl (fun hc2 => ?_) (fun hc2 => ?_)
    ·
      refine t_region ?_
      refine mvX rfl ?_
      refine mvX rfl ?_
      refine r_cap_nil rfl rfl rfl ?_
      refine r_cut_nil rfl rfl rfl rfl rfl ?_
      refine mvI rfl ?_
      refine r_appendN rfl rfl rfl rfl rfl rfl rfl rfl (by decide) rfl (by omega) (by show _ * 16 ≤ _; omega) (by omega) ?_
      refine mvX rfl ?_
      refine r_len_nil rfl rfl rfl ?_
      refine r_cut_rm0 (tg := 23) TurE rfl rfl (by decide) rfl rfl rfl rfl rfl ?_
      refine asR rfl ?_
      refine r_nil ?_
      refine i_join ?_
      (refine Ent.mk' ?_ ?_ <;> (repeat' (first | exact allSub_zero | exact allTags_nil | refine allSub_succ' ?_ (Ty.sub_any _) | refine allSub_succ' ?_ (Ty.sub_refl _))))
    ·
      refine t_skip ?_
      refine i_join ?_
      (refine Ent.mk' ?_ ?_ <;> (repeat' (first | exact allSub_zero | exact allTags_nil | refine allSub_succ' ?_ (Ty.sub_any _) | refine allSub_succ' ?_ Ty.nil_row)))
  ·
    refine t_seq ?_
    refine t_region ?_
    refine mvR rfl ?_
    refine asR rfl ?_
    refine r_nil ?_
    refine i_then ?_
    refine t_ret ?_
    refine g_ret1 [23] rfl rfl (by decide) (by repeat (exact rc_nil)) ?_
    all_goals skip
    all_goals exact rg_cv (cv_row (by decide))
set_option maxRecDepth 100000 in
theorem c_Grow_int (n : Nat) (h : n ≤ 400000000) : CtrG Tryz.prog 123 [] [] [Ty.ex (.slice none 0 0), Ty.int .i64 (n : Nat)] [] (Ty.row I64 3 23 []) := by
  refine fnG_intro Tryz.func123 rfl (by decide) Tryz.ntmps123 (by exact Nat.le_of_ble_eq_true rfl) fun w0 M0 => ?_
  refine t_seq ?_
  refine t_region ?_
  refine asX rfl ?_
  refine r_nil ?_
  refine i_then ?_
  refine t_seq ?_
  refine t_seq ?_
  refine t_region ?_
  refine mvI rfl ?_
  refine r_bin rfl rfl rfl ?_
  refine r_nil ?_
  refine i_then ?_
  refine t_cond_ff rfl (by exact decide_eq_false (by omega)) ?_
  refine t_skip ?_
  refine i_then ?_
  refine t_join (J := live [(0, Ty.row I64 3 23 [])] []) ?_ ?_
  ·
    refine t_seq ?_
    refine t_region ?_
    refine mvI rfl ?_
    refine mvX rfl ?_
    refine r_cap_nil rfl rfl rfl ?_
    refine mvX rfl ?_
    refine r_len_nil rfl rfl rfl ?_
    refine r_sub rfl rfl (by omega) (by omega) ?_
    refine r_sub rfl rfl (by omega) (by omega) ?_
    refine asI rfl ?_
    refine r_nil ?_
    refine i_then ?_
    refine t_seq ?_
    refine t_region ?_
    refine mvI rfl ?_
    refine r_bin rfl rfl rfl ?_
    refine r_nil ?_
    refine i_then ?_
    refine t_cond_dec rfl (fun hc2 => ?_) (fun hc2 => ?_)
    ·
      refine t_region ?_
      refine mvX rfl ?_
      refine mvX rfl ?_
      refine r_cap_nil rfl rfl rfl ?_
      refine r_cut_nil rfl rfl rfl rfl rfl ?_
      refine mvI rfl ?_
      refine r_appendN rfl rfl rfl rfl rfl rfl rfl rfl (by decide) rfl (by omega) (by show _ * 8 ≤ _; omega) (by omega) ?_
      refine mvX rfl ?_
      refine r_len_nil rfl rfl rfl ?_
      refine r_cut_rm0 (tg := 23) I64 rfl rfl (by decide) rfl rfl rfl rfl rfl ?_
      refine asR rfl ?_
      refine r_nil ?_
      refine i_join ?_
      (refine Ent.mk' ?_ ?_ <;> (repeat' (first | exact allSub_zero | exact allTags_nil | refine allSub_succ' ?_ (Ty.sub_any _) | refine allSub_succ' ?_ (Ty.sub_refl _))))
    ·
      refine t_skip ?_
      refine i_join ?_
      (refine Ent.mk' ?_ ?_ <;> (repeat' (first | exact allSub_zero | exact allTags_nil | refine allSub_succ' ?_ (Ty.sub_any _) | refine allSub_succ' ?_ Ty.nil_row)))
  ·
    refine t_seq ?_
    refine t_region ?_
    refine mvR rfl ?_
    refine asR rfl ?_
    refine r_nil ?_
    refine i_then ?_
    refine t_ret ?_
    refine g_ret1 [23] rfl rfl (by decide) (by repeat (exact rc_nil)) ?_
    all_goals skip
    all_goals exact rg_cv (cv_row (by decide))
set_option maxRecDepth 100000 in
theorem c_Concat_tur (l : List (List Tur)) (h : l.flatten.length ≤ 400000000) : Ctr Tryz.prog 108 [Ty.sl RowT l] (Ty.sl TurE l.flatten) := by
  refine fn_intro Tryz.func108 rfl (by decide) Tryz.ntmps108 (by exact Nat.le_of_ble_eq_true rfl) fun w0 M0 => ?_
  refine t_fact (s := 0) rfl rfl sl_len fun hl => ?_
  refine t_seq ?_
  refine t_region ?_
  refine asX rfl ?_
  refine r_nil ?_
  refine i_then ?_
  refine t_seq ?_
  refine t_region ?_
  refine asI rfl ?_
  refine r_nil ?_
  refine i_then ?_
  refine t_seq ?_
  refine t_seq ?_
  refine t_region ?_
  refine mvS rfl ?_
  refine r_len rfl rfl rfl ?_
  refine mvI rfl ?_
  refine r_nil ?_
  refine i_then ?_
  refine t_block ?_
  refine t_loop (fun (k : Nat) => live [(0, Ty.sl RowT l), (3, Ty.int .i64 (l.take k).flatten.length), (9, Ty.sl RowT l), (10, Ty.int .i64 l.length), (11, Ty.int .i64 (k : Nat))] []) (fun k => l.length - k) (0) ?_ fun k => ?_
  · (refine Ent.mk' ?_ ?_ <;> (repeat' (first | exact allSub_zero | exact allTags_nil | refine allSub_succ' ?_ (Ty.sub_any _) | refine allSub_succ' ?_ (Ty.sub_refl _))))
  ·
    refine t_seq ?_
    refine t_region ?_
    refine r_bin rfl rfl rfl ?_
    refine r_nil ?_
    refine i_then ?_
    refine t_seq ?_
    refine t_cond_dec rfl (fun hc1 => ?_) (fun hc1 => ?_)
    ·
      refine t_skip ?_
      refine i_then ?_
      refine t_seq ?_
      refine t_block ?_
      refine t_seq ?_
      refine t_region ?_
      refine r_index_slN rfl rfl rfl rfl rfl rfl (by omega) ?_
      refine r_load_pp rfl rfl rfl rfl ?_
      refine asS rfl ?_
      refine r_nil ?_
      refine i_then ?_
      refine t_seq ?_
      have hf1 := flat_take_le l (k + 1)
      have hf2 : (l.take (k + 1)).flatten.length = (l.take k).flatten.length + (nth l k).length := by rw [flat_take_succ (by omega), List.length_append]
      refine t_region ?_
      refine mvI rfl ?_
      refine mvS rfl ?_
      refine r_len rfl rfl rfl ?_
      refine r_add rfl rfl (by omega) (by omega) ?_
      refine asI rfl ?_
      refine r_nil ?_
      refine i_then ?_
      refine t_seq ?_
      refine t_region ?_
      refine mvI rfl ?_
      refine r_bin rfl rfl rfl ?_
      refine r_nil ?_
      refine i_then ?_
      refine t_cond_ff rfl (by exact decide_eq_false (by omega)) ?_
      refine t_skip ?_
      refine i_block ?_
      refine i_then ?_
      refine t_region ?_
      refine r_add rfl rfl (by omega) (by omega) ?_
      refine mvI rfl ?_
      refine r_nil ?_
      refine i_round (k + 1) ?_ (by omega)
      (refine Ent.mk' ?_ ?_ <;> (repeat' (first | exact allSub_zero | exact allTags_nil | refine allSub_succ' ?_ (Ty.sub_any _) | refine allSub_succ' ?_ (Ty.sub_refl _) | refine allSub_succ' ?_ ?_)))
      all_goals skip
      all_goals exact Ty.sub_int (by rw [flat_take_succ (by omega), List.length_append]; omega)
    ·
      refine t_exit ?_
      refine i_then_exit ?_
      refine i_then_exit ?_
      refine i_block_exit rfl ?_
      refine i_then ?_
      refine t_seq ?_
      refine t_region ?_
      refine mvI rfl ?_
      refine r_callG [(25, 23)] [25] [] (c_Grow_tur (l.take k).flatten.length (by have := flat_take_le l k; omega)) rfl rfl (by repeat (first | exact cv_nil | refine cv_cons ?_ ?_ | exact cv_pub rfl rfl)) pre_nil post_nil (cv_row (by exact List.mem_cons_self)) ?_
      refine asR rfl ?_
      refine r_nil ?_
      refine i_then ?_
      refine t_seq ?_
      refine t_seq ?_
      refine t_region ?_
      refine mvS rfl ?_
      refine r_len rfl rfl rfl ?_
      refine mvI rfl ?_
      refine r_nil ?_
      refine i_then ?_
      refine t_block ?_
      refine t_loop (fun (m : Nat) => live [(6, Ty.row TurE 37 25 (l.take m).flatten), (25, Ty.sl RowT l), (26, Ty.int .i64 l.length), (27, Ty.int .i64 (m : Nat))] []) (fun m => l.length - m) (0) ?_ fun m => ?_
      · (refine Ent.mk' ?_ ?_ <;> (repeat' (first | exact allSub_zero | exact allTags_nil | refine allSub_succ' ?_ (Ty.sub_any _) | refine allSub_succ' ?_ (Ty.sub_refl _))))
      ·
        have hm1 := flat_take_le l (m + 1)
        refine t_seq ?_
        refine t_region ?_
        refine r_bin rfl rfl rfl ?_
        refine r_nil ?_
        refine i_then ?_
        refine t_seq ?_
        refine t_cond_dec rfl (fun hc3 => ?_) (fun hc3 => ?_)
        ·
          refine t_skip ?_
          refine i_then ?_
          refine t_seq ?_
          refine t_block ?_
          refine t_seq ?_
          refine t_region ?_
          refine r_index_slN rfl rfl rfl rfl rfl rfl (by omega) ?_
          refine r_load_pp rfl rfl rfl rfl ?_
          refine asS rfl ?_
          refine r_nil ?_
          refine i_then ?_
          have hf2 : (l.take (m + 1)).flatten.length = (l.take m).flatten.length + (nth l m).length := by rw [flat_take_succ (by omega), List.length_append]
          refine t_region ?_
          refine mvR rfl ?_
          refine mvS rfl ?_
          refine r_append rfl rfl (by decide) rfl rfl rfl rfl rfl rfl (by decide) (by (dsimp only; omega)) (by omega) ?_
          refine asR rfl ?_
          refine r_nil ?_
          refine i_block ?_
          refine i_then ?_
          refine t_region ?_
          refine r_add rfl rfl (by omega) (by omega) ?_
          refine mvI rfl ?_
          refine r_nil ?_
          refine i_round (m + 1) ?_ (by omega)
          (refine Ent.mk' ?_ ?_ <;> (repeat' (first | exact allSub_zero | exact allTags_nil | refine allSub_succ' ?_ (Ty.sub_any _) | refine allSub_succ' ?_ (Ty.sub_refl _) | refine allSub_succ' ?_ ?_)))
          all_goals skip
          all_goals exact Ty.sub_row (flat_take_succ (by omega)).symm
        ·
          refine t_exit ?_
          refine i_then_exit ?_
          refine i_then_exit ?_
          refine i_block_exit rfl ?_
          refine i_then ?_
          refine t_seq ?_
          refine t_region ?_
          refine mvR rfl ?_
          refine asR rfl ?_
          refine r_nil ?_
          refine i_then ?_
          refine t_ret ?_
          refine i_rp1 rfl rfl ?_
          all_goals skip
          all_goals exact ret_row_eq (by decide) (by rw [List.take_of_length_le (by omega)])
set_option maxRecDepth 100000 in
theorem c_Concat_int (l : List (List Int)) (h : l.flatten.length ≤ 400000000) : Ctr Tryz.prog 85 [Ty.sl RowE l] (Ty.sl I64 l.flatten) := by
  refine fn_intro Tryz.func85 rfl (by decide) Tryz.ntmps85 (by exact Nat.le_of_ble_eq_true rfl) fun w0 M0 => ?_
  refine t_fact (s := 0) rfl rfl sl_len fun hl => ?_
  refine t_seq ?_
  refine t_region ?_
  refine asX rfl ?_
  refine r_nil ?_
  refine i_then ?_
  refine t_seq ?_
  refine t_region ?_
  refine asI rfl ?_
  refine r_nil ?_
  refine i_then ?_
  refine t_seq ?_
  refine t_seq ?_
  refine t_region ?_
  refine mvS rfl ?_
  refine r_len rfl rfl rfl ?_
  refine mvI rfl ?_
  refine r_nil ?_
  refine i_then ?_
  refine t_block ?_
  refine t_loop (fun (k : Nat) => live [(0, Ty.sl RowE l), (3, Ty.int .i64 (l.take k).flatten.length), (9, Ty.sl RowE l), (10, Ty.int .i64 l.length), (11, Ty.int .i64 (k : Nat))] []) (fun k => l.length - k) (0) ?_ fun k => ?_
  · (refine Ent.mk' ?_ ?_ <;> (repeat' (first | exact allSub_zero | exact allTags_nil | refine allSub_succ' ?_ (Ty.sub_any _) | refine allSub_succ' ?_ (Ty.sub_refl _))))
  ·
    refine t_seq ?_
    refine t_region ?_
    refine r_bin rfl rfl rfl ?_
    refine r_nil ?_
    refine i_then ?_
    refine t_seq ?_
    refine t_cond_dec rfl (fun hc1 => ?_) (fun hc1 => ?_)
    ·
      refine t_skip ?_
      refine i_then ?_
      refine t_seq ?_
      refine t_block ?_
      refine t_seq ?_
      refine t_region ?_
      refine r_index_slN rfl rfl rfl rfl rfl rfl (by omega) ?_
      refine r_load_pp rfl rfl rfl rfl ?_
      refine asS rfl ?_
      refine r_nil ?_
      refine i_then ?_
      refine t_seq ?_
      have hf1 := flat_take_le l (k + 1)
      have hf2 : (l.take (k + 1)).flatten.length = (l.take k).flatten.length + (nth l k).length := by rw [flat_take_succ (by omega), List.length_append]
      refine t_region ?_
      refine mvI rfl ?_
      refine mvS rfl ?_
      refine r_len rfl rfl rfl ?_
      refine r_add rfl rfl (by omega) (by omega) ?_
      refine asI rfl ?_
      refine r_nil ?_
      refine i_then ?_
      refine t_seq ?_
      refine t_region ?_
      refine mvI rfl ?_
      refine r_bin rfl rfl rfl ?_
      refine r_nil ?_
      refine i_then ?_
      refine t_cond_ff rfl (by exact decide_eq_false (by omega)) ?_
      refine t_skip ?_
      refine i_block ?_
      refine i_then ?_
      refine t_region ?_
      refine r_add rfl rfl (by omega) (by omega) ?_
      refine mvI rfl ?_
      refine r_nil ?_
      refine i_round (k + 1) ?_ (by omega)
      (refine Ent.mk' ?_ ?_ <;> (repeat' (first | exact allSub_zero | exact allTags_nil | refine allSub_succ' ?_ (Ty.sub_any _) | refine allSub_succ' ?_ (Ty.sub_refl _) | refine allSub_succ' ?_ ?_)))
      all_goals skip
      all_goals exact Ty.sub_int (by rw [flat_take_succ (by omega), List.length_append]; omega)
    ·
      refine t_exit ?_
      refine i_then_exit ?_
      refine i_then_exit ?_
      refine i_block_exit rfl ?_
      refine i_then ?_
      refine t_seq ?_
      refine t_region ?_
      refine mvI rfl ?_
      refine r_callG [(25, 23)] [25] [] (c_Grow_int (l.take k).flatten.length (by have := flat_take_le l k; omega)) rfl rfl (by repeat (first | exact cv_nil | refine cv_cons ?_ ?_ | exact cv_pub rfl rfl)) pre_nil post_nil (cv_row (by exact List.mem_cons_self)) ?_
      refine asR rfl ?_
      refine r_nil ?_
      refine i_then ?_
      refine t_seq ?_
      refine t_seq ?_
      refine t_region ?_
      refine mvS rfl ?_
      refine r_len rfl rfl rfl ?_
      refine mvI rfl ?_
      refine r_nil ?_
      refine i_then ?_
      refine t_block ?_
      refine t_loop (fun (m : Nat) => live [(6, Ty.row I64 3 25 (l.take m).flatten), (25, Ty.sl RowE l), (26, Ty.int .i64 l.length), (27, Ty.int .i64 (m : Nat))] []) (fun m => l.length - m) (0) ?_ fun m => ?_
      · (refine Ent.mk' ?_ ?_ <;> (repeat' (first | exact allSub_zero | exact allTags_nil | refine allSub_succ' ?_ (Ty.sub_any _) | refine allSub_succ' ?_ (Ty.sub_refl _))))
      ·
        have hm1 := flat_take_le l (m + 1)
        refine t_seq ?_
        refine t_region ?_
        refine r_bin rfl rfl rfl ?_
        refine r_nil ?_
        refine i_then ?_
        refine t_seq ?_
        refine t_cond_dec rfl (fun hc3 => ?_) (fun hc3 => ?_)
        ·
          refine t_skip ?_
          refine i_then ?_
          refine t_seq ?_
          refine t_block ?_
          refine t_seq ?_
          refine t_region ?_
          refine r_index_slN rfl rfl rfl rfl rfl rfl (by omega) ?_
          refine r_load_pp rfl rfl rfl rfl ?_
          refine asS rfl ?_
          refine r_nil ?_
          refine i_then ?_
          have hf2 : (l.take (m + 1)).flatten.length = (l.take m).flatten.length + (nth l m).length := by rw [flat_take_succ (by omega), List.length_append]
          refine t_region ?_
          refine mvR rfl ?_
          refine mvS rfl ?_
          refine r_append rfl rfl (by decide) rfl rfl rfl rfl rfl rfl (by decide) (by (dsimp only; omega)) (by omega) ?_
          refine asR rfl ?_
          refine r_nil ?_
          refine i_block ?_
          refine i_then ?_
          refine t_region ?_
          refine r_add rfl rfl (by omega) (by omega) ?_
          refine mvI rfl ?_
          refine r_nil ?_
          refine i_round (m + 1) ?_ (by omega)
          (refine Ent.mk' ?_ ?_ <;> (repeat' (first | exact allSub_zero | exact allTags_nil | refine allSub_succ' ?_ (Ty.sub_any _) | refine allSub_succ' ?_ (Ty.sub_refl _) | refine allSub_succ' ?_ ?_)))
          all_goals skip
          all_goals exact Ty.sub_row (flat_take_succ (by omega)).symm
        ·
          refine t_exit ?_
          refine i_then_exit ?_
          refine i_then_exit ?_
          refine i_block_exit rfl ?_
          refine i_then ?_
          refine t_seq ?_
          refine t_region ?_
          refine mvR rfl ?_
          refine asR rfl ?_
          refine r_nil ?_
          refine i_then ?_
          refine t_ret ?_
          refine i_rp1 rfl rfl ?_
          all_goals skip
          all_goals exact ret_row_eq (by decide) (by rw [List.take_of_length_le (by omega)])
set_option maxRecDepth 100000 in
theorem c_Reverse_rows (xs : List (List Tur)) (hn : xs.length ≤ 400000000) : CtrG Tryz.prog 99 [1000] [(1000, Cont.vec RowT 29 xs)] [Ty.vs 1000 xs.length] [(1000, Cont.vec RowT 29 xs.reverse)] (Ty.tup []) := by
  refine fnG_intro Tryz.func99 rfl (by decide) Tryz.ntmps99 (by exact Nat.le_of_ble_eq_true rfl) fun w0 M0 => ?_
  refine t_seq ?_
  refine t_region ?_
  refine mvV rfl ?_
  refine r_len_vs rfl rfl rfl ?_
  refine r_sub rfl rfl (by omega) (by omega) ?_
  refine asI rfl ?_
  refine asI rfl ?_
  refine r_nil ?_
  refine i_then ?_
  refine t_block ?_
  refine t_loop (fun (k : {k : Nat // k = 0 ∨ 2 * k ≤ xs.length}) => live [(0, Ty.vs 1000 xs.length), (2, Ty.int .i64 (k.1 : Nat)), (3, Ty.int .i64 ((xs.length : Int) - 1 - k.1))] [(1000, Cont.vec RowT 29 (revUp xs k.1))]) (fun k => xs.length - k.1) (⟨0, .inl rfl⟩) ?_ fun k => ?_
  · (refine Ent.mk' ?_ ?_ <;> (repeat' (first | exact allSub_zero | exact allTags_nil | refine allSub_succ' ?_ (Ty.sub_any _) | refine allSub_succ' ?_ (Ty.sub_refl _) | refine allTags_cons rfl ?_ ?_ | refine allSub_succ' ?_ ?_)))
    all_goals first | exact Ty.sub_int (show (xs.length : Int) - 1 = (xs.length : Int) - 1 - ((0 : Nat) : Int) by omega) | exact Cont.sub_vec (revUp_zero xs).symm
  ·
    have hk := k.2
    have hrl := revUp_len xs k.1
    refine t_seq ?_
    refine t_seq ?_
    refine t_region ?_
    refine mvI rfl ?_
    refine mvI rfl ?_
    refine r_bin rfl rfl rfl ?_
    refine r_nil ?_
    refine i_then ?_
    refine t_cond_dec rfl (fun hc1 => ?_) (fun hc1 => ?_)
    ·
      refine t_skip ?_
      refine i_then ?_
      refine t_seq ?_
      refine t_block ?_
      have hlt : (k.1 : Int) < (xs.length : Int) - 1 - k.1 := hc1
      refine t_draw mixed rfl ?_
      refine mvV rfl ?_
      refine mvI rfl ?_
      refine mvV rfl ?_
      refine mvI rfl ?_
      refine mvV rfl ?_
      refine mvI rfl ?_
      refine r_index_vsI rfl rfl rfl rfl rfl (by omega) (by omega) ?_
      refine r_load_vecB rfl rfl rfl (by decide) rfl rfl (by omega) rfl ?_
      refine mvV rfl ?_
      refine mvI rfl ?_
      refine r_index_vs rfl rfl rfl rfl rfl (by omega) ?_
      refine r_load_vecB rfl rfl rfl (by decide) rfl rfl (by omega) rfl ?_
      refine r_index_vs rfl rfl rfl rfl rfl (by omega) ?_
      refine r_store_vecB rfl rfl rfl (by decide) rfl rfl (by exact (rfl : _ = Ty.sl _ _)) rfl (by omega) (by decide) rfl rfl ?_
      refine r_index_vsI rfl rfl rfl rfl rfl (by omega) (by omega) ?_
      refine r_store_vecB rfl rfl rfl (by decide) rfl rfl (by exact (rfl : _ = Ty.sl _ _)) rfl (by (simp <;> omega)) (by decide) rfl rfl ?_
      refine r_nil ?_
      refine ⟨by kernel_rfl, ?_⟩
      refine i_block ?_
      refine i_then ?_
      refine t_region ?_
      refine mvI rfl ?_
      refine r_add rfl rfl (by omega) (by omega) ?_
      refine mvI rfl ?_
      refine r_sub rfl rfl (by omega) (by omega) ?_
      refine asI rfl ?_
      refine asI rfl ?_
      refine r_nil ?_
      refine i_round (⟨k.1 + 1, by omega⟩) ?_ (by show xs.length - (k.1 + 1) < xs.length - k.1; omega)
      (refine Ent.mk' ?_ ?_ <;> (repeat' (first | exact allSub_zero | exact allTags_nil | refine allSub_succ' ?_ (Ty.sub_any _) | refine allSub_succ' ?_ (Ty.sub_refl _) | refine allTags_cons rfl ?_ ?_ | refine allSub_succ' ?_ ?_)))
      all_goals skip
      all_goals first | exact Ty.sub_int (by show _ = (xs.length : Int) - 1 - ((k.1 + 1 : Nat) : Int); omega) | exact Cont.sub_vec (by rw [show ((xs.length : Int) - 1 - k.1).toNat = xs.length - 1 - k.1 by omega]; exact revUp_succ (by omega))
    ·
      refine t_exit ?_
      refine i_then_exit ?_
      refine i_then_exit ?_
      refine i_block_exit rfl ?_
      refine i_end ?_
      refine g_ret0 [1000] rfl (by decide) ?_
      refine rc_cons rfl (cc_vec (by decide) (revUp_end (by omega))) rc_nil
      all_goals skip
set_option maxRecDepth 100000 in
theorem c_Reverse_tur (xs : List Tur) (hn : xs.length ≤ 400000000) : CtrG Tryz.prog 127 [1000] [(1000, Cont.vec TurE 37 xs)] [Ty.vs 1000 xs.length] [(1000, Cont.vec TurE 37 xs.reverse)] (Ty.tup []) := by
  refine fnG_intro Tryz.func127 rfl (by decide) Tryz.ntmps127 (by exact Nat.le_of_ble_eq_true rfl) fun w0 M0 => ?_
  refine t_seq ?_
  refine t_region ?_
  refine mvV rfl ?_
  refine r_len_vs rfl rfl rfl ?_
  refine r_sub rfl rfl (by omega) (by omega) ?_
  refine asI rfl ?_
  refine asI rfl ?_
  refine r_nil ?_
  refine i_then ?_
  refine t_block ?_
  refine t_loop (fun (k : {k : Nat // k = 0 ∨ 2 * k ≤ xs.length}) => live [(0, Ty.vs 1000 xs.length), (2, Ty.int .i64 (k.1 : Nat)), (3, Ty.int .i64 ((xs.length : Int) - 1 - k.1))] [(1000, Cont.vec TurE 37 (revUp xs k.1))]) (fun k => xs.length - k.1) (⟨0, .inl rfl⟩) ?_ fun k => ?_
  · (refine Ent.mk' ?_ ?_ <;> (repeat' (first | exact allSub_zero | exact allTags_nil | refine allSub_succ' ?_ (Ty.sub_any _) | refine allSub_succ' ?_ (Ty.sub_refl _) | refine allTags_cons rfl ?_ ?_ | refine allSub_succ' ?_ ?_)))
    all_goals first | exact Ty.sub_int (show (xs.length : Int) - 1 = (xs.length : Int) - 1 - ((0 : Nat) : Int) by omega) | exact Cont.sub_vec (revUp_zero xs).symm
  ·
    have hk := k.2
    have hrl := revUp_len xs k.1
    refine t_seq ?_
    refine t_seq ?_
    refine t_region ?_
    refine mvI rfl ?_
    refine mvI rfl ?_
    refine r_bin rfl rfl rfl ?_
    refine r_nil ?_
    refine i_then ?_
    refine t_cond_dec rfl (fun hc1 => ?_) (fun hc1 => ?_)
    ·
      refine t_skip ?_
      refine i_then ?_
      refine t_seq ?_
      refine t_block ?_
      have hlt : (k.1 : Int) < (xs.length : Int) - 1 - k.1 := hc1
      refine t_draw mixed rfl ?_
      refine mvV rfl ?_
      refine mvI rfl ?_
      refine mvV rfl ?_
      refine mvI rfl ?_
      refine mvV rfl ?_
      refine mvI rfl ?_
      refine r_index_vsI rfl rfl rfl rfl rfl (by omega) (by omega) ?_
      refine r_load_vecE ((xs.length : Int) - 1 - k.1).toNat rfl rfl rfl (by decide) rfl rfl rfl (by omega) ?_
      refine mvV rfl ?_
      refine mvI rfl ?_
      refine r_index_vs rfl rfl rfl rfl rfl (by omega) ?_
      refine r_load_vecE k.1 rfl rfl rfl (by decide) rfl rfl rfl (by omega) ?_
      refine r_index_vs rfl rfl rfl rfl rfl (by omega) ?_
      refine r_store_vecE k.1 rfl rfl rfl (by decide) rfl rfl rfl (by omega) ?_
      refine r_index_vsI rfl rfl rfl rfl rfl (by omega) (by omega) ?_
      refine r_store_vecE ((xs.length : Int) - 1 - k.1).toNat rfl rfl rfl (by decide) rfl rfl rfl (by rw [List.length_set]; omega) ?_
      refine r_nil ?_
      refine ⟨by kernel_rfl, ?_⟩
      refine i_block ?_
      refine i_then ?_
      refine t_region ?_
      refine mvI rfl ?_
      refine r_add rfl rfl (by omega) (by omega) ?_
      refine mvI rfl ?_
      refine r_sub rfl rfl (by omega) (by omega) ?_
      refine asI rfl ?_
      refine asI rfl ?_
      refine r_nil ?_
      refine i_round (⟨k.1 + 1, by omega⟩) ?_ (by show xs.length - (k.1 + 1) < xs.length - k.1; omega)
      (refine Ent.mk' ?_ ?_ <;> (repeat' (first | exact allSub_zero | exact allTags_nil | refine allSub_succ' ?_ (Ty.sub_any _) | refine allSub_succ' ?_ (Ty.sub_refl _) | refine allTags_cons rfl ?_ ?_ | refine allSub_succ' ?_ ?_)))
      all_goals skip
      all_goals first | exact Ty.sub_int (by show _ = (xs.length : Int) - 1 - ((k.1 + 1 : Nat) : Int); omega) | exact Cont.sub_vec (by rw [show ((xs.length : Int) - 1 - k.1).toNat = xs.length - 1 - k.1 by omega]; exact revUp_succ (by omega))
    ·
      refine t_exit ?_
      refine i_then_exit ?_
      refine i_then_exit ?_
      refine i_block_exit rfl ?_
      refine i_end ?_
      refine g_ret0 [1000] rfl (by decide) ?_
      refine rc_cons rfl (cc_vec (by decide) (revUp_end (by omega))) rc_nil
      all_goals skip
set_option maxRecDepth 100000 in
theorem c_plan (f : Found) (first : Pl) (L : List (List Tur)) (hL : Chain f.ways first f.last L) (hlen : L.length ≤ 40000000) : Ctr Tryz.prog 47 [foundT f, Ty.agg (plT first)] (Ty.sl RowT L) := by
  refine fn_intro Tryz.func47 rfl (by decide) Tryz.ntmps47 (by exact Nat.le_of_ble_eq_true rfl) fun w0 M0 => ?_
  refine t_seq ?_
  refine t_region ?_
  refine r_box_agg rfl ?_
  refine r_box_agg rfl ?_
  refine asX rfl ?_
  refine r_nil ?_
  refine i_then ?_
  refine t_seq ?_
  refine t_region ?_
  refine asX rfl ?_
  refine r_nil ?_
  refine i_then ?_
  refine t_seq ?_
  refine t_seq ?_
  refine t_region ?_
  refine r_field_pp rfl rfl rfl rfl rfl (by decide) ?_
  refine r_load_ppN rfl rfl rfl (by exact Nat.le_of_ble_eq_true rfl) ?_
  refine r_alloc rfl (by exact List.cons_ne_nil _ _) rfl ?_
  refine r_storeN rfl rfl (by decide) rfl rfl rfl rfl rfl rfl ?_
  refine r_nil ?_
  refine i_then ?_
  refine t_block ?_
  refine t_loop (fun (x : {x : Pl × List (List Tur) × List (List Tur) // Chain f.ways first x.1 x.2.1 ∧ L = x.2.1 ++ x.2.2.reverse}) => live [(2, Ty.pp (foundTys f)), (3, Ty.pp (plT first)), (5, Ty.row RowT 29 25 x.1.2.2), (6, Ty.ptr 7 0)] [(7, Cont.cells 91 (plT x.1.1))]) (fun x => x.1.2.1.length) (⟨(f.last, L, []), hL, by simp⟩) ?_ fun x => ?_
  · (refine Ent.mk' ?_ ?_ <;> (repeat' (first | exact allSub_zero | exact allTags_nil | refine allSub_succ' ?_ (Ty.sub_any _) | refine allSub_succ' ?_ (Ty.sub_refl _) | refine allSub_succ' ?_ Ty.nil_row | refine allTags_cons rfl (Cont.sub_refl _) ?_)))
  ·
    have hxl : x.1.2.2.length ≤ L.length := by rw [congrArg List.length x.2.2, List.length_append, List.length_reverse]; omega
    refine t_seq ?_
    refine t_seq ?_
    refine t_region ?_
    refine r_load_ptrN rfl rfl (by decide) rfl rfl (by exact Nat.le_of_ble_eq_true rfl) ?_
    refine r_load_ppN rfl rfl rfl (by exact Nat.le_of_ble_eq_true rfl) ?_
    refine r_neq_A (eqt91 x.1.1 first) rfl rfl ?_
    refine r_nil ?_
    refine i_then ?_
    refine t_cond_ndec rfl (fun hc1 => ?_) (fun hc1 => ?_)
    ·
      refine t_skip ?_
      refine i_then ?_
      refine t_seq ?_
      refine t_block ?_
      refine t_region ?_
      refine mvR rfl ?_
      refine r_field_pp rfl rfl rfl rfl rfl (by decide) ?_
      refine r_load_pp rfl rfl rfl rfl ?_
      refine r_load_ptrN rfl rfl (by decide) rfl rfl (by exact Nat.le_of_ble_eq_true rfl) ?_
      refine r_lookupP plKey (k := x.1.1) (z0 := way0) rfl rfl (key_pl x.1.1) mapT121 zero147 way_zero ?_
      refine r_fieldv1 rfl rfl rfl rfl rfl rfl rfl ?_
      refine r_buildSlice (E := RowT) (xs := [((mget f.ways x.1.1).getD way0).byT]) rfl rfl rfl rfl rfl (by decide) (by decide) (by repeat (first | exact (Parts.nil : Parts _ _ [] _) | (show Parts _ _ ((_, _) :: _) _; apply Parts.one; (· exact (rfl : _ = Ty.sl _ _)); (· exact rfl)))) (by exact rfl) rfl ?_
      refine r_append rfl rfl (by decide) rfl rfl rfl rfl rfl rfl (by decide) (by (simp <;> omega)) (by (simp <;> omega)) ?_
      refine asR rfl ?_
      refine r_nil ?_
      refine i_block ?_
      refine i_then ?_
      refine t_seq ?_
      refine t_seq ?_
      refine t_region ?_
      refine r_load_ptrN rfl rfl (by decide) rfl rfl (by exact Nat.le_of_ble_eq_true rfl) ?_
      refine r_nil ?_
      refine i_then ?_
      refine t_region ?_
      refine r_alloc rfl (by exact List.cons_ne_nil _ _) rfl ?_
      refine r_storeN rfl rfl (by decide) rfl rfl rfl rfl rfl rfl ?_
      refine r_nil ?_
      refine i_then ?_
      refine t_region ?_
      refine r_field_pp rfl rfl rfl rfl rfl (by decide) ?_
      refine r_load_pp rfl rfl rfl rfl ?_
      refine r_load_ptrN rfl rfl (by decide) rfl rfl (by exact Nat.le_of_ble_eq_true rfl) ?_
      refine r_lookupP plKey (k := x.1.1) (z0 := way0) rfl rfl (key_pl x.1.1) mapT121 zero147 way_zero ?_
      refine r_fieldvN rfl rfl rfl rfl rfl rfl ?_
      refine r_storeN rfl rfl (by decide) rfl rfl rfl rfl rfl rfl ?_
      refine r_nil ?_
      refine i_round (⟨(((mget f.ways x.1.1).getD way0).frm, x.1.2.1.dropLast, x.1.2.2 ++ [((mget f.ways x.1.1).getD way0).byT]), (x.2.1.step hc1).1, by have h1 := x.2.2; rw [(x.2.1.step hc1).2] at h1; exact h1.trans (by simp)⟩) ?_ (by show x.1.2.1.dropLast.length < x.1.2.1.length; rw [congrArg List.length (x.2.1.step hc1).2, List.length_append]; simp)
      (refine Ent.mk' ?_ ?_ <;> (repeat' (first | exact allSub_zero | exact allTags_nil | refine allSub_succ' ?_ (Ty.sub_any _) | refine allSub_succ' ?_ (Ty.sub_refl _) | refine allTags_cons rfl (Cont.sub_refl _) ?_)))
      all_goals skip
    ·
      refine t_exit ?_
      refine i_then_exit ?_
      refine i_then_exit ?_
      refine i_block_exit rfl ?_
      refine i_then ?_
      refine t_seq ?_
      have hx0 : x.1.2.1 = [] := by
        have h := x.2.1
        have e : x.1.1 = first := hc1
        rw [e] at h; exact h.at_first
      have hL2 : L = x.1.2.2.reverse := by
        have h := x.2.2
        rw [hx0] at h; exact h
      refine t_own (s := 5) rfl rfl ?_
      refine t_region ?_
      refine mvV rfl ?_
      refine r_callG [(25, 1000)] [] [(25, Cont.vec RowT 29 x.1.2.2.reverse)] (c_Reverse_rows x.1.2.2 (by omega)) rfl rfl (by repeat (first | exact cv_nil | refine cv_cons ?_ ?_ | exact cv_vs List.mem_cons_self)) (pre_cons (a := 25) (b := 1000) (by exact List.mem_cons_self) rfl (cc_vec (by exact List.mem_cons_self) rfl) pre_nil) (post_cons (a := 25) (b := 1000) (by exact List.mem_cons_self) rfl (cc_vec (by exact List.mem_cons_self) rfl) post_nil) (cv_pub rfl rfl) ?_
      refine r_nil ?_
      refine i_then ?_
      refine t_seq ?_
      refine t_pub (tg := 25) [(5, Ty.sl RowT x.1.2.2.reverse)] (by decide) rfl ⟨pub_vs rfl rfl (by rw [List.length_reverse]) (by decide), trivial⟩ ?_
      refine t_region ?_
      refine mvS rfl ?_
      refine asS rfl ?_
      refine r_nil ?_
      refine i_then ?_
      refine t_ret ?_
      refine i_rp1 rfl rfl ?_
      all_goals skip
      all_goals exact ret_eq rfl rfl (congrArg (Ty.sl RowT) hL2.symm)
end Go.Proofs.YtpnndljmhpepgaaGreat

namespace Go.Proofs.YtpnndljmhpepgaaGreat
open Go Go.T
set_option maxHeartbeats 16000000
theorem found_zero (w : List (Pl × Way)) : foundT ⟨w, pl0, false⟩ = Ty.agg [Ty.pm (encN 6) WayV w, Ty.int .i64 0, Ty.int .i64 0, Ty.int .i64 0, Ty.int .i64 0, Ty.int .i64 0, Ty.int .i64 0, Ty.bool false] := rfl
def costT (ct : Ty) (hd : ct.deps = []) (hcd : ct.cdeps = []) : Ty := Ty.nd ct hd hcd
attribute [local irreducible] dInt dBool dSl dPp dPtr dAgg dTup dClo dAny dEx dStr dGd dCells dVec dVs dRow dOp nth Tri Into TOps Ctr bodyPost Exit.then Exit.inBlock Code.wp Code.wpIn dWhen dPa dPe dAo dArr dMp dPm dMap dCJ CtrG CtrI OpY keepPost iterPost bodyPostM roundQ
set_option maxRecDepth 100000 in
theorem c_search (b : Barn) (hr : b.Right) (c : Tur → Int) (hc : CostOk b c) (ct : Ty) (h1 : ct.one = true) (hd : ct.deps = []) (hcd : ct.cdeps = []) (hf : ∀ t : Tur, 0 ≤ t.lot → t.lot < b.lots.length → Cal Tryz.prog ct [Ty.agg (TurE.tys t)] (Ty.int .i64 (c t))) (all : Bool) : Ctr Tryz.prog 83 [Ty.pe DeskE ⟨b, firstP b⟩ 0, Ty.agg [Ty.nd ct hd hcd], Ty.bool all] (foundT (searchM b c all)) := by
  refine fnM_intro Tryz.func83 rfl (by decide) Tryz.ntmps83 (by exact Nat.le_of_ble_eq_true rfl) fun w0 M0 => ?_
  have h6 := hr.lots
  have hN := placesN_eq
  refine t_seq ?_
  refine t_region ?_
  refine r_box_agg rfl ?_
  refine r_alloc rfl (by exact List.cons_ne_nil _ _) rfl ?_
  refine r_nil ?_
  refine i_then ?_
  refine t_scope ?_
  refine t_seq ?_
  refine t_region ?_
  refine r_makeMap (encN 6) WayV mapT121 rfl ?_
  refine mvPe rfl ?_
  refine r_nilCheck_pe rfl ?_
  refine r_field_pe rfl rfl rfl rfl rfl (by decide) ?_
  refine r_load_peN rfl rfl rfl rfl rfl ?_
  refine r_build rfl rfl (by exact List.cons_ne_nil _ _) rfl (by repeat (exact (Parts.nil : Parts _ _ [] _))) (by exact rfl) ?_
  refine r_insert (r_mapUpdateS plKey (k := firstP b) (v := way0) rfl rfl (by decide) rfl (key_pl (firstP b)) rfl way0_sub mapT121 ?_)
  refine mvM rfl ?_
  refine r_build rfl rfl (by exact List.cons_ne_nil _ _) rfl (by repeat (first | exact (Parts.nil : Parts _ _ [] _) | (show Parts _ _ ((_, _) :: _) _; apply Parts.one; (· exact (rfl : _ = Ty.mp _)); (· exact rfl)))) (by exact rfl) ?_
  refine r_alloc rfl (by exact List.cons_ne_nil _ _) rfl ?_
  refine r_storeN rfl rfl (by decide) rfl rfl rfl rfl rfl rfl ?_
  refine r_nil ?_
  refine i_then ?_
  refine t_seq ?_
  refine t_forget (B := live [(0, Ty.pe DeskE ⟨b, firstP b⟩ 0), (2, Ty.bool all), (4, Ty.pp [Ty.nd ct hd hcd]), (6, Ty.ptr 7 0), (7, Ty.ptr 8 0)] [(7, Cont.cells 98 [Ty.ex (.map none), Ty.int .i64 0, Ty.int .i64 0, Ty.int .i64 0, Ty.int .i64 0, Ty.int .i64 0, Ty.int .i64 0, Ty.bool false]), (8, Cont.cells 98 [Ty.mp 19, Ty.int .i64 0, Ty.int .i64 0, Ty.int .i64 0, Ty.int .i64 0, Ty.int .i64 0, Ty.int .i64 0, Ty.bool false]), (19, Cont.mp (encN 6) WayV (st0 b).ways)]) ?_ ?_
  · (refine Ent.mk' ?_ ?_ <;> (repeat' (first | exact allSub_zero | exact allTags_nil | refine allSub_succ' ?_ (Ty.sub_any _) | refine allSub_succ' ?_ (Ty.sub_refl _) | refine allTags_cons rfl (Cont.sub_refl _) ?_)))
  refine t_region ?_
  refine r_makeMapQ (Value.int .i64) PlE 91 4096 mapT158 rfl ?_
  refine mvPe rfl ?_
  refine r_nilCheck_pe rfl ?_
  refine r_field_pe rfl rfl rfl rfl rfl (by decide) ?_
  refine r_load_peN rfl rfl rfl rfl rfl ?_
  refine r_buildRowN (E := PlE) (xs := [firstP b]) rfl rfl rfl rfl rfl (by decide) (by decide) (by repeat (first | exact (Parts.nil : Parts _ _ [] _) | (show Parts _ _ ((_, _) :: _) _; apply Parts.agg; (· exact (rfl : _ = Ty.agg _))))) (by exact rfl) rfl rfl ?_
  refine r_insert (r_updateR i3Key (k := 0) rfl rfl (by decide) rfl key_int rfl mapT158 (by decide) (by decide) rfl rfl ?_)
  refine mvM rfl ?_
  refine r_alloc rfl (by exact List.cons_ne_nil _ _) rfl ?_
  refine r_store1 rfl rfl (by decide) rfl rfl (by exact (rfl : _ = Ty.mp _)) rfl (by exact Nat.le_of_ble_eq_true rfl) rfl rfl (by exact (rfl : _ = [_])) ?_
  refine r_nil ?_
  refine i_then ?_
  refine t_seq ?_
  refine t_forget (B := live [(0, Ty.pe DeskE ⟨b, firstP b⟩ 0), (2, Ty.bool all), (4, Ty.pp [Ty.nd ct hd hcd]), (6, Ty.ptr 7 0), (7, Ty.ptr 8 0), (8, Ty.ptr 9 0)] [(7, Cont.cells 98 [Ty.ex (.map none), Ty.int .i64 0, Ty.int .i64 0, Ty.int .i64 0, Ty.int .i64 0, Ty.int .i64 0, Ty.int .i64 0, Ty.bool false]), (8, Cont.cells 98 [Ty.mp 19, Ty.int .i64 0, Ty.int .i64 0, Ty.int .i64 0, Ty.int .i64 0, Ty.int .i64 0, Ty.int .i64 0, Ty.bool false]), (9, Cont.cells 156 [Ty.mp 27]), (19, Cont.mp (encN 6) WayV (st0 b).ways), (27, Cont.mr (Value.int .i64) PlE 91 4096 (st0 b).queue)]) ?_ ?_
  · (refine Ent.mk' ?_ ?_ <;> (repeat' (first | exact allSub_zero | exact allTags_nil | refine allSub_succ' ?_ (Ty.sub_any _) | refine allSub_succ' ?_ (Ty.sub_refl _) | refine allTags_cons rfl (Cont.sub_refl _) ?_)))
  refine t_region ?_
  refine r_makeMap (encN 6) VBool mapT159 rfl ?_
  refine asM rfl ?_
  refine r_nil ?_
  refine i_then ?_
  refine t_seq ?_
  refine t_label ?_
  refine i_then ?_
  refine t_seq ?_
  refine t_seq ?_
  refine t_forget (B := live [(0, Ty.pe DeskE ⟨b, firstP b⟩ 0), (2, Ty.bool all), (4, Ty.pp [Ty.nd ct hd hcd]), (6, Ty.ptr 7 0), (7, Ty.ptr 8 0), (8, Ty.ptr 9 0), (9, Ty.mp 34)] [(7, Cont.cells 98 [Ty.ex (.map none), Ty.int .i64 0, Ty.int .i64 0, Ty.int .i64 0, Ty.int .i64 0, Ty.int .i64 0, Ty.int .i64 0, Ty.bool false]), (8, Cont.cells 98 [Ty.mp 19, Ty.int .i64 0, Ty.int .i64 0, Ty.int .i64 0, Ty.int .i64 0, Ty.int .i64 0, Ty.int .i64 0, Ty.bool false]), (9, Cont.cells 156 [Ty.mp 27]), (19, Cont.mp (encN 6) WayV (st0 b).ways), (27, Cont.mr (Value.int .i64) PlE 91 4096 (st0 b).queue), (34, Cont.mp (encN 6) VBool (st0 b).done)]) ?_ ?_
  · (refine Ent.mk' ?_ ?_ <;> (repeat' (first | exact allSub_zero | exact allTags_nil | refine allSub_succ' ?_ (Ty.sub_any _) | refine allSub_succ' ?_ (Ty.sub_refl _) | refine allTags_cons rfl (Cont.sub_refl _) ?_)))
  refine t_region ?_
  refine r_alloc rfl (by exact List.cons_ne_nil _ _) rfl ?_
  refine r_alloc rfl (by exact List.cons_ne_nil _ _) rfl ?_
  refine r_store1 rfl rfl (by decide) rfl rfl (by exact (rfl : _ = Ty.int _ _)) rfl (by exact Nat.le_of_ble_eq_true rfl) rfl rfl (by exact (rfl : _ = [_])) ?_
  refine r_store1 rfl rfl (by decide) rfl rfl (by exact (rfl : _ = Ty.int _ _)) rfl (by exact Nat.le_of_ble_eq_true rfl) rfl rfl (by exact (rfl : _ = [_])) ?_
  refine r_nil ?_
  refine i_then ?_
  refine t_block ?_
  refine t_loop (fun (x : {x : St // Inv b c all (turnsL b) 0 x ∧ SameS b c all x}) => live [(0, Ty.pe DeskE ⟨b, firstP b⟩ 0), (2, Ty.bool all), (4, Ty.pp [Ty.nd ct hd hcd]), (6, Ty.ptr 7 0), (7, Ty.ptr 8 0), (8, Ty.ptr 9 0), (9, Ty.mp 34), (10, Ty.ptr 11 0), (11, Ty.ptr 12 0)] [(7, Cont.cells 98 [Ty.ex (.map none), Ty.int .i64 0, Ty.int .i64 0, Ty.int .i64 0, Ty.int .i64 0, Ty.int .i64 0, Ty.int .i64 0, Ty.bool false]), (8, Cont.cells 98 [Ty.mp 19, Ty.int .i64 0, Ty.int .i64 0, Ty.int .i64 0, Ty.int .i64 0, Ty.int .i64 0, Ty.int .i64 0, Ty.bool false]), (9, Cont.cells 156 [Ty.mp 27]), (11, Cont.cells 3 [Ty.int .i64 x.1.now]), (12, Cont.cells 3 [Ty.int .i64 x.1.left]), (19, Cont.mp (encN 6) WayV x.1.ways), (27, Cont.mr (Value.int .i64) PlE 91 4096 x.1.queue), (34, Cont.mp (encN 6) VBool x.1.done)]) (fun x => muS x.1) (⟨st0 b, inv0 b c all, same0⟩) ?_ fun x => ?_
  · (refine Ent.mk' ?_ ?_ <;> (repeat' (first | exact allSub_zero | exact allTags_nil | refine allSub_succ' ?_ (Ty.sub_any _) | refine allSub_succ' ?_ (Ty.sub_refl _) | refine allTags_cons rfl (Cont.sub_refl _) ?_)))
  ·
    refine t_seq ?_
    refine t_seq ?_
    refine t_region ?_
    refine r_load_ptr rfl rfl (by decide) rfl rfl rfl ?_
    refine r_bin rfl rfl rfl ?_
    refine r_nil ?_
    refine i_then ?_
    refine t_cond_dec rfl (fun hc1 => ?_) (fun hc1 => ?_)
    ·
      refine t_skip ?_
      refine i_then ?_
      refine t_seq ?_
      refine t_block ?_
      refine t_seq ?_
      refine t_block ?_
      refine t_loop (fun (y : {y : St // YIx b c all x.1 y}) => live [(0, Ty.pe DeskE ⟨b, firstP b⟩ 0), (2, Ty.bool all), (4, Ty.pp [Ty.nd ct hd hcd]), (6, Ty.ptr 7 0), (7, Ty.ptr 8 0), (8, Ty.ptr 9 0), (9, Ty.mp 34), (10, Ty.ptr 11 0), (11, Ty.ptr 12 0)] [(7, Cont.cells 98 [Ty.ex (.map none), Ty.int .i64 0, Ty.int .i64 0, Ty.int .i64 0, Ty.int .i64 0, Ty.int .i64 0, Ty.int .i64 0, Ty.bool false]), (8, Cont.cells 98 [Ty.mp 19, Ty.int .i64 0, Ty.int .i64 0, Ty.int .i64 0, Ty.int .i64 0, Ty.int .i64 0, Ty.int .i64 0, Ty.bool false]), (9, Cont.cells 156 [Ty.mp 27]), (11, Cont.cells 3 [Ty.int .i64 y.1.now]), (12, Cont.cells 3 [Ty.int .i64 y.1.left]), (19, Cont.mp (encN 6) WayV y.1.ways), (27, Cont.mr (Value.int .i64) PlE 91 4096 y.1.queue), (34, Cont.mp (encN 6) VBool y.1.done)]) (fun y => muS y.1) (⟨x.1, yix_start x.2.1 x.2.2 hc1⟩) ?_ fun y => ?_
      · (refine Ent.mk' ?_ ?_ <;> (repeat' (first | exact allSub_zero | exact allTags_nil | refine allSub_succ' ?_ (Ty.sub_any _) | refine allSub_succ' ?_ (Ty.sub_refl _) | refine allTags_cons rfl (Cont.sub_refl _) ?_)))
      ·
        refine t_seq ?_
        refine t_seq ?_
        refine t_region ?_
        refine r_load_ptr rfl rfl (by decide) rfl rfl rfl ?_
        refine r_load_ptr rfl rfl (by decide) rfl rfl rfl ?_
        refine r_lookupQ i3Key (k := y.1.now) rfl rfl (by decide) rfl key_int mapT158 zero148 ?_
        refine r_lenQ rfl rfl rfl ?_
        refine r_bin rfl rfl rfl ?_
        refine r_nil ?_
        refine i_then ?_
        refine t_cond_dec rfl (fun hc2 => ?_) (fun hc2 => ?_)
        ·
          refine t_skip ?_
          refine i_then ?_
          refine t_block ?_
          refine t_seq ?_
          have hlen : 0 < (rowAt y.1.queue y.1.now).length := Int.natCast_pos.1 hc2
          have hlen' : 0 < ((mget y.1.queue y.1.now).getD []).length := hlen
          refine t_region ?_
          refine r_load_ptr rfl rfl (by decide) rfl rfl rfl ?_
          refine r_load_ptr rfl rfl (by decide) rfl rfl rfl ?_
          refine r_lookupQ i3Key (k := y.1.now) rfl rfl (by decide) rfl key_int mapT158 zero148 ?_
          refine r_indexQ (i := 0) rfl rfl rfl rfl rfl rfl hlen' ?_
          refine r_load_opN rfl rfl rfl (by exact Nat.le_of_ble_eq_true rfl) ?_
          refine r_alloc rfl (by exact List.cons_ne_nil _ _) rfl ?_
          refine r_storeN rfl rfl (by decide) rfl rfl rfl rfl rfl rfl ?_
          refine r_nil ?_
          refine i_then ?_
          refine t_seq ?_
          refine t_forget (B := live [(0, Ty.pe DeskE ⟨b, firstP b⟩ 0), (2, Ty.bool all), (4, Ty.pp [Ty.nd ct hd hcd]), (6, Ty.ptr 7 0), (7, Ty.ptr 8 0), (8, Ty.ptr 9 0), (9, Ty.mp 34), (10, Ty.ptr 11 0), (11, Ty.ptr 12 0), (12, Ty.ptr 13 0)] [(7, Cont.cells 98 [Ty.ex (.map none), Ty.int .i64 0, Ty.int .i64 0, Ty.int .i64 0, Ty.int .i64 0, Ty.int .i64 0, Ty.int .i64 0, Ty.bool false]), (8, Cont.cells 98 [Ty.mp 19, Ty.int .i64 0, Ty.int .i64 0, Ty.int .i64 0, Ty.int .i64 0, Ty.int .i64 0, Ty.int .i64 0, Ty.bool false]), (9, Cont.cells 156 [Ty.mp 27]), (11, Cont.cells 3 [Ty.int .i64 y.1.now]), (12, Cont.cells 3 [Ty.int .i64 y.1.left]), (13, Cont.cells 91 (plT (headP y.1))), (19, Cont.mp (encN 6) WayV y.1.ways), (27, Cont.mr (Value.int .i64) PlE 91 4096 y.1.queue), (34, Cont.mp (encN 6) VBool y.1.done)]) ?_ ?_
          · (refine Ent.mk' ?_ ?_ <;> (repeat' (first | exact allSub_zero | exact allTags_nil | refine allSub_succ' ?_ (Ty.sub_any _) | refine allSub_succ' ?_ (Ty.sub_refl _) | refine allTags_cons rfl (Cont.sub_refl _) ?_)))
          refine t_draw mixed rfl ?_
          refine r_load_ptr rfl rfl (by decide) rfl rfl rfl ?_
          refine r_load_ptr rfl rfl (by decide) rfl rfl rfl ?_
          refine r_load_ptr rfl rfl (by decide) rfl rfl rfl ?_
          refine r_load_ptr rfl rfl (by decide) rfl rfl rfl ?_
          refine r_lookupQ i3Key (k := y.1.now) rfl rfl (by decide) rfl key_int mapT158 zero148 ?_
          refine r_cutQ (lo := 1) rfl rfl rfl rfl rfl rfl hlen' hlen' ?_
          refine r_updateQ i3Key (k := y.1.now) rfl rfl (by decide) rfl key_int rfl mapT158 rfl ?_
          refine r_nil ?_
          refine ⟨by kernel_rfl, ?_⟩
          refine i_then ?_
          refine t_seq ?_
          refine t_seq ?_
          have hpos := y.2.pos hlen
          have hle := y.2.inv.left_le hr
          have hnow := y.2.inv.now_le hr hpos
          have hnow0 := y.2.inv.now0
          refine t_region ?_
          refine r_load_ptr rfl rfl (by decide) rfl rfl rfl ?_
          refine r_sub rfl rfl (by omega) (by omega) ?_
          refine r_store1 rfl rfl (by decide) rfl rfl (by exact (rfl : _ = Ty.int _ _)) rfl (by exact Nat.le_of_ble_eq_true rfl) rfl rfl (by exact (rfl : _ = [_])) ?_
          refine r_nil ?_
          refine i_then ?_
          refine t_seq ?_
          refine t_region ?_
          refine mvM rfl ?_
          refine r_load_ptrN rfl rfl (by decide) rfl rfl (by exact Nat.le_of_ble_eq_true rfl) ?_
          refine r_lookup plKey (k := headP y.1) (z0 := false) rfl rfl (by decide) rfl (key_pl (headP y.1)) mapT159 zero4 vbool_zero ?_
          refine r_nil ?_
          refine i_then ?_
          refine t_cond rfl (fun hc3 => ?_) (fun hc3 => ?_)
          ·
            refine t_exit ?_
            refine i_then_exit ?_
            refine i_block_exit rfl ?_
            refine i_round (⟨popY y.1, y.2.old hlen hc3⟩) ?_ (by exact mu_old y.2.inv (row_head hlen))
            (refine Ent.mk' ?_ ?_ <;> (repeat' (first | exact allSub_zero | exact allTags_nil | refine allSub_succ' ?_ (Ty.sub_any _) | refine allSub_succ' ?_ (Ty.sub_refl _) | refine allTags_cons rfl (Cont.sub_refl _) ?_)))
            all_goals skip
            all_goals exact Cont.sub_mp (foldK_done (markY y.1) _).symm
          ·
            refine t_skip ?_
            refine i_then ?_
            refine t_seq ?_
            refine t_forget (B := live [(0, Ty.pe DeskE ⟨b, firstP b⟩ 0), (2, Ty.bool all), (4, Ty.pp [Ty.nd ct hd hcd]), (6, Ty.ptr 7 0), (7, Ty.ptr 8 0), (8, Ty.ptr 9 0), (9, Ty.mp 34), (10, Ty.ptr 11 0), (11, Ty.ptr 12 0), (12, Ty.ptr 13 0)] [(7, Cont.cells 98 [Ty.ex (.map none), Ty.int .i64 0, Ty.int .i64 0, Ty.int .i64 0, Ty.int .i64 0, Ty.int .i64 0, Ty.int .i64 0, Ty.bool false]), (8, Cont.cells 98 [Ty.mp 19, Ty.int .i64 0, Ty.int .i64 0, Ty.int .i64 0, Ty.int .i64 0, Ty.int .i64 0, Ty.int .i64 0, Ty.bool false]), (9, Cont.cells 156 [Ty.mp 27]), (11, Cont.cells 3 [Ty.int .i64 y.1.now]), (12, Cont.cells 3 [Ty.int .i64 (popY y.1).left]), (13, Cont.cells 91 (plT (headP y.1))), (19, Cont.mp (encN 6) WayV y.1.ways), (27, Cont.mr (Value.int .i64) PlE 91 4096 (popY y.1).queue), (34, Cont.mp (encN 6) VBool y.1.done)]) ?_ ?_
            · (refine Ent.mk' ?_ ?_ <;> (repeat' (first | exact allSub_zero | exact allTags_nil | refine allSub_succ' ?_ (Ty.sub_any _) | refine allSub_succ' ?_ (Ty.sub_refl _) | refine allTags_cons rfl (Cont.sub_refl _) ?_)))
            refine t_region ?_
            refine mvM rfl ?_
            refine r_load_ptrN rfl rfl (by decide) rfl rfl (by exact Nat.le_of_ble_eq_true rfl) ?_
            refine r_mapUpdate plKey (k := headP y.1) (v := true) rfl rfl (by decide) rfl (key_pl (headP y.1)) rfl rfl mapT159 ?_
            refine r_nil ?_
            refine i_then ?_
            refine t_seq ?_
            refine t_seq ?_
            refine t_region ?_
            refine mvB rfl ?_
            refine r_not rfl ?_
            refine mvB rfl ?_
            apply r_guard (s := 63) rfl rfl rfl
            · intro hg; apply opT_of; (refine mvPe rfl ?_); refine r_nil ?_; exact rfl
            · exact rfl
            · exact rfl
            apply r_guard (s := 63) rfl rfl rfl
            · intro hg; apply opT_of; (refine r_load_ptrN rfl rfl (by decide) rfl rfl (by exact Nat.le_of_ble_eq_true rfl) ?_); refine r_nil ?_; exact rfl
            · exact rfl
            · exact rfl
            apply r_guard (s := 63) rfl rfl rfl
            · intro hg; apply opT_strip (s := 64) rfl (by (rw [hg]; rfl)); apply opT_strip (s := 65) rfl (by (rw [hg]; rfl)); apply opT_of; (refine r_call (c_made ⟨b, firstP b⟩ h6 (headP y.1)) rfl rfl rfl rfl rfl ?_); refine r_nil ?_; exact rfl
            · exact rfl
            · exact rfl
            refine r_and rfl rfl ?_
            refine r_nil ?_
            refine i_then ?_
            refine t_cond rfl (fun hc4 => ?_) (fun hc4 => ?_)
            ·
              refine t_seq ?_
              refine t_region ?_
              refine r_load_ptrN rfl rfl (by decide) rfl rfl (by exact Nat.le_of_ble_eq_true rfl) ?_
              refine r_field_ptr rfl rfl rfl rfl rfl (by decide) ?_
              refine r_storeO rfl rfl (by decide) rfl rfl rfl (by exact Nat.le_of_ble_eq_true rfl) rfl rfl rfl rfl ?_
              refine r_field_ptr rfl rfl rfl rfl rfl (by decide) ?_
              refine r_store1 rfl rfl (by decide) rfl rfl (by exact (rfl : _ = Ty.bool _)) rfl (by exact Nat.le_of_ble_eq_true rfl) rfl rfl (by exact rfl) ?_
              refine r_nil ?_
              refine i_then ?_
              refine t_exit ?_
              refine i_then_exit ?_
              refine i_block_exit' rfl ?_
              refine i_then_exit ?_
              refine i_block_exit' rfl ?_
              refine i_then_exit ?_
              refine i_block_exit' rfl ?_
              refine i_then_exit ?_
              refine i_then_exit ?_
              refine i_block_exit rfl ?_
              refine i_then ?_
              refine t_seq ?_
              (refine t_pubC (tg := 19) [] [(8, Cont.cells 98 [Ty.pm (encN 6) WayV y.1.ways, Ty.int .i64 (nth (headP y.1).1 0), Ty.int .i64 (nth (headP y.1).1 1), Ty.int .i64 (nth (headP y.1).1 2), Ty.int .i64 (nth (headP y.1).1 3), Ty.int .i64 (nth (headP y.1).1 4), Ty.int .i64 (nth (headP y.1).1 5), Ty.bool true])] (by decide) rfl trivial ⟨pubC_cells rfl rfl ⟨pubTy_mp rfl (by decide), pubTy_same rfl, pubTy_same rfl, pubTy_same rfl, pubTy_same rfl, pubTy_same rfl, pubTy_same rfl, pubTy_same rfl, trivial⟩, trivial⟩ ?_; refine t_forget (B := live [(6, Ty.ptr 7 0), (7, Ty.ptr 8 0)] [(7, Cont.cells 98 [Ty.ex (.map none), Ty.int .i64 0, Ty.int .i64 0, Ty.int .i64 0, Ty.int .i64 0, Ty.int .i64 0, Ty.int .i64 0, Ty.bool false]), (8, Cont.cells 98 [Ty.pm (encN 6) WayV y.1.ways, Ty.int .i64 (nth (headP y.1).1 0), Ty.int .i64 (nth (headP y.1).1 1), Ty.int .i64 (nth (headP y.1).1 2), Ty.int .i64 (nth (headP y.1).1 3), Ty.int .i64 (nth (headP y.1).1 4), Ty.int .i64 (nth (headP y.1).1 5), Ty.bool true])]) ?_ ?_)
              · (refine Ent.mk' ?_ ?_ <;> (repeat' (first | exact allSub_zero | exact allTags_nil | refine allSub_succ' ?_ (Ty.sub_any _) | refine allSub_succ' ?_ (Ty.sub_refl _) | refine allTags_cons rfl (Cont.sub_refl _) ?_)))
              refine t_region ?_
              refine r_load_ptrN rfl rfl (by decide) rfl rfl (by exact Nat.le_of_ble_eq_true rfl) ?_
              refine r_storeN rfl rfl (by decide) rfl rfl rfl rfl rfl rfl ?_
              refine r_nil ?_
              refine i_then ?_
              refine t_ret ?_
              refine i_scope_ret ?_
              refine m_ret rfl ?_
              refine i_rcell rfl rfl rfl rfl (by decide) rfl rfl rfl ?_
              exact ret_eq rfl rfl (by rw [y.2.found hlen hc3 hc4]; rfl)
            ·
              refine t_skip ?_
              refine i_then ?_
              refine t_seq ?_
              have hmk := y.2.mark hlen hc3 hc4
              refine t_region ?_
              refine mvPe rfl ?_
              refine r_load_ptrN rfl rfl (by decide) rfl rfl (by exact Nat.le_of_ble_eq_true rfl) ?_
              refine r_call (c_turnings _ _) rfl rfl rfl rfl rfl ?_
              refine r_nil ?_
              refine i_then ?_
              refine t_block ?_
              refine t_rangeFunc (ps := [74]) (lk [(0, Ty.pe DeskE ⟨b, firstP b⟩ 0), (2, Ty.bool all), (4, Ty.pp [Ty.nd ct hd hcd]), (6, Ty.ptr 7 0), (7, Ty.ptr 8 0), (8, Ty.ptr 9 0), (9, Ty.mp 34), (10, Ty.ptr 11 0), (11, Ty.ptr 12 0), (12, Ty.ptr 13 0)]) (fun k => [(7, Cont.cells 98 [Ty.ex (.map none), Ty.int .i64 0, Ty.int .i64 0, Ty.int .i64 0, Ty.int .i64 0, Ty.int .i64 0, Ty.int .i64 0, Ty.bool false]), (8, Cont.cells 98 [Ty.mp 19, Ty.int .i64 0, Ty.int .i64 0, Ty.int .i64 0, Ty.int .i64 0, Ty.int .i64 0, Ty.int .i64 0, Ty.bool false]), (9, Cont.cells 156 [Ty.mp 27]), (11, Cont.cells 3 [Ty.int .i64 y.1.now]), (12, Cont.cells 3 [Ty.int .i64 (foldK b c (headP y.1) (markY y.1) k).left]), (13, Cont.cells 91 (plT (headP y.1))), (19, Cont.mp (encN 6) WayV (foldK b c (headP y.1) (markY y.1) k).ways), (27, Cont.mr (Value.int .i64) PlE 91 4096 (foldK b c (headP y.1) (markY y.1) k).queue), (34, Cont.mp (encN 6) VBool (markY y.1).done)]) false [] [7, 8, 9, 11, 12, 13, 34] rfl rfl (c_turnings1 ⟨b, firstP b⟩ (small_right hr) h6 (headP y.1)) rfl rfl (by decide) (by intro t ht; obtain ⟨x, _, rfl⟩ := List.mem_map.1 ht; exact ⟨rfl, rfl, rfl⟩) rfl rfl (fun _ => rfl) rfl ?_ ?_ ?_ (by intro h; cases h)
              · (refine Ent.mk' ?_ ?_ <;> (repeat' (first | exact allSub_zero | exact allTags_nil | refine allSub_succ' ?_ (Ty.sub_any _) | refine allSub_succ' ?_ (Ty.sub_refl _) | refine allTags_cons rfl (Cont.sub_refl _) ?_)))
              · intro k tys hk
                obtain ⟨hk1, rfl⟩ := enc_get hk
                have hk1 : k < (turnsL b (headP y.1)).length := hk1
                have hk2 := turnsL_len hr (headP y.1)
                have htm : nth (turnsL b (headP y.1)) k ∈ turnsL b (headP y.1) := nth_mem hk1
                have htl := mem_turnsL.1 htm
                have htc := hc.at htm
                have hfk := (fold_inv hc hmk.1 hmk.2 k (by omega)).1
                have hfl := hfk.left_le hr
                have hf0 : 0 ≤ (foldK b c (headP y.1) (markY y.1) k).left := by rw [hfk.left]; exact cntQ_nonneg _
                have hrow := hfk.row_le hr (y.1.now + c (nth (turnsL b (headP y.1)) k))
                have hrow' : (((mget (foldK b c (headP y.1) (markY y.1) k).queue (y.1.now + c (nth (turnsL b (headP y.1)) k))).getD []).length : Int) + (42 - k) ≤ 1 + 42 * placesN := hrow
                have hfn : (foldK b c (headP y.1) (markY y.1) k).now = y.1.now := foldK_now _ _
                refine ⟨live [(0, Ty.pe DeskE ⟨b, firstP b⟩ 0), (2, Ty.bool all), (4, Ty.pp [Ty.nd ct hd hcd]), (6, Ty.ptr 7 0), (7, Ty.ptr 8 0), (8, Ty.ptr 9 0), (9, Ty.mp 34), (10, Ty.ptr 11 0), (11, Ty.ptr 12 0), (12, Ty.ptr 13 0), (13, Ty.ptr 14 0)] [(7, Cont.cells 98 [Ty.ex (.map none), Ty.int .i64 0, Ty.int .i64 0, Ty.int .i64 0, Ty.int .i64 0, Ty.int .i64 0, Ty.int .i64 0, Ty.bool false]), (8, Cont.cells 98 [Ty.mp 19, Ty.int .i64 0, Ty.int .i64 0, Ty.int .i64 0, Ty.int .i64 0, Ty.int .i64 0, Ty.int .i64 0, Ty.bool false]), (9, Cont.cells 156 [Ty.mp 27]), (11, Cont.cells 3 [Ty.int .i64 y.1.now]), (12, Cont.cells 3 [Ty.int .i64 (foldK b c (headP y.1) (markY y.1) k).left]), (13, Cont.cells 91 (plT (headP y.1))), (19, Cont.mp (encN 6) WayV (foldK b c (headP y.1) (markY y.1) k).ways), (27, Cont.mr (Value.int .i64) PlE 91 4096 (foldK b c (headP y.1) (markY y.1) k).queue), (34, Cont.mp (encN 6) VBool (markY y.1).done), (14, Cont.cells 37 (TurE.tys (nth (turnsL b (headP y.1)) k)))], fun l w M => ?_, fun l w M => ?_⟩
                ·
                  refine t_region ?_
                  refine r_alloc rfl (by exact List.cons_ne_nil _ _) rfl ?_
                  refine r_storeN rfl rfl (by decide) rfl rfl rfl rfl rfl rfl ?_
                  refine r_nil ?_
                  refine i_join ?_
                  (refine Ent.mk' ?_ ?_ <;> (repeat' (first | exact allSub_zero | exact allTags_nil | refine allSub_succ' ?_ (Ty.sub_any _) | refine allSub_succ' ?_ (Ty.sub_refl _) | refine allTags_cons rfl (Cont.sub_refl _) ?_)))
                ·
                  refine t_block ?_
                  refine t_seq ?_
                  refine t_region ?_
                  refine r_load_ptrN rfl rfl (by decide) rfl rfl (by exact Nat.le_of_ble_eq_true rfl) ?_
                  refine r_alloc rfl (by exact List.cons_ne_nil _ _) rfl ?_
                  refine r_storeN rfl rfl (by decide) rfl rfl rfl rfl rfl rfl ?_
                  refine r_nil ?_
                  refine i_then ?_
                  refine t_seq ?_
                  refine t_region ?_
                  refine r_field_ptr rfl rfl rfl rfl rfl (by decide) ?_
                  refine r_load_ptr rfl rfl (by decide) rfl rfl rfl ?_
                  refine r_field_ptr rfl rfl rfl rfl rfl (by decide) ?_
                  refine r_load_ptr rfl rfl (by decide) rfl rfl rfl ?_
                  refine r_index_ptrI (n := 6) rfl rfl rfl rfl rfl htl.1 (by omega) ?_
                  refine r_store1 (l' := plT (moved (headP y.1) (nth (turnsL b (headP y.1)) k))) rfl rfl (by decide) rfl rfl (by exact (rfl : _ = Ty.int _ _)) rfl (by show 0 + _ * 1 < 6; omega) rfl rfl (pl_moved _ _ (by omega)) ?_
                  refine r_nil ?_
                  refine i_then ?_
                  refine t_seq ?_
                  refine t_forget (B := live [(0, Ty.pe DeskE ⟨b, firstP b⟩ 0), (2, Ty.bool all), (4, Ty.pp [Ty.nd ct hd hcd]), (6, Ty.ptr 7 0), (7, Ty.ptr 8 0), (8, Ty.ptr 9 0), (9, Ty.mp 34), (10, Ty.ptr 11 0), (11, Ty.ptr 12 0), (12, Ty.ptr 13 0), (13, Ty.ptr 14 0), (14, Ty.ptr 15 0)] [(7, Cont.cells 98 [Ty.ex (.map none), Ty.int .i64 0, Ty.int .i64 0, Ty.int .i64 0, Ty.int .i64 0, Ty.int .i64 0, Ty.int .i64 0, Ty.bool false]), (8, Cont.cells 98 [Ty.mp 19, Ty.int .i64 0, Ty.int .i64 0, Ty.int .i64 0, Ty.int .i64 0, Ty.int .i64 0, Ty.int .i64 0, Ty.bool false]), (9, Cont.cells 156 [Ty.mp 27]), (11, Cont.cells 3 [Ty.int .i64 y.1.now]), (13, Cont.cells 91 (plT (headP y.1))), (34, Cont.mp (encN 6) VBool (markY y.1).done), (12, Cont.cells 3 [Ty.int .i64 (foldK b c (headP y.1) (markY y.1) k).left]), (14, Cont.cells 37 (TurE.tys (nth (turnsL b (headP y.1)) k))), (15, Cont.cells 91 (plT (moved (headP y.1) (nth (turnsL b (headP y.1)) k)))), (19, Cont.mp (encN 6) WayV (foldK b c (headP y.1) (markY y.1) k).ways), (27, Cont.mr (Value.int .i64) PlE 91 4096 (foldK b c (headP y.1) (markY y.1) k).queue)]) ?_ ?_
                  · (refine Ent.mk' ?_ ?_ <;> (repeat' (first | exact allSub_zero | exact allTags_nil | refine allSub_succ' ?_ (Ty.sub_any _) | refine allSub_succ' ?_ (Ty.sub_refl _) | refine allTags_cons rfl (Cont.sub_refl _) ?_)))
                  refine t_draw mixed rfl ?_
                  refine r_load_ptr rfl rfl (by decide) rfl rfl rfl ?_
                  refine r_field_pp rfl rfl rfl rfl rfl (by decide) ?_
                  refine r_load_pp rfl rfl rfl rfl ?_
                  refine r_load_ptrN rfl rfl (by decide) rfl rfl (by exact Nat.le_of_ble_eq_true rfl) ?_
                  refine r_callc rfl (cal_nd hd hcd (hf (nth (turnsL b (headP y.1)) k) htl.1 htl.2.1)) rfl ?_
                  refine r_add rfl rfl (by omega) (by omega) ?_
                  refine asI rfl ?_
                  refine r_nil ?_
                  refine ⟨by kernel_rfl, ?_⟩
                  refine i_then ?_
                  refine t_seq ?_
                  refine t_seq ?_
                  refine t_region ?_
                  refine r_field_ptr rfl rfl rfl rfl rfl (by decide) ?_
                  refine r_load_ptr rfl rfl (by decide) rfl rfl rfl ?_
                  refine r_load_ptrN rfl rfl (by decide) rfl rfl (by exact Nat.le_of_ble_eq_true rfl) ?_
                  refine r_lookup2 plKey (k := moved (headP y.1) (nth (turnsL b (headP y.1)) k)) (z0 := way0) rfl rfl (by decide) rfl (key_pl _) mapT121 zero147 way_zero ?_
                  refine mvT rfl ?_
                  refine r_extract rfl rfl ?_
                  refine r_extract rfl rfl ?_
                  refine r_alloc rfl (by exact List.cons_ne_nil _ _) rfl ?_
                  refine r_storeN rfl rfl (by decide) rfl rfl rfl rfl rfl rfl ?_
                  refine asB rfl ?_
                  refine r_nil ?_
                  refine i_then ?_
                  refine t_seq ?_
                  refine t_forget (B := live [(0, Ty.pe DeskE ⟨b, firstP b⟩ 0), (2, Ty.bool all), (4, Ty.pp [Ty.nd ct hd hcd]), (6, Ty.ptr 7 0), (7, Ty.ptr 8 0), (8, Ty.ptr 9 0), (9, Ty.mp 34), (10, Ty.ptr 11 0), (11, Ty.ptr 12 0), (12, Ty.ptr 13 0), (13, Ty.ptr 14 0), (14, Ty.ptr 15 0), (15, Ty.int .i64 (y.1.now + c (nth (turnsL b (headP y.1)) k))), (16, Ty.ptr 17 0), (17, Ty.bool (mget (foldK b c (headP y.1) (markY y.1) k).ways (moved (headP y.1) (nth (turnsL b (headP y.1)) k))).isSome)] [(7, Cont.cells 98 [Ty.ex (.map none), Ty.int .i64 0, Ty.int .i64 0, Ty.int .i64 0, Ty.int .i64 0, Ty.int .i64 0, Ty.int .i64 0, Ty.bool false]), (8, Cont.cells 98 [Ty.mp 19, Ty.int .i64 0, Ty.int .i64 0, Ty.int .i64 0, Ty.int .i64 0, Ty.int .i64 0, Ty.int .i64 0, Ty.bool false]), (9, Cont.cells 156 [Ty.mp 27]), (11, Cont.cells 3 [Ty.int .i64 y.1.now]), (13, Cont.cells 91 (plT (headP y.1))), (34, Cont.mp (encN 6) VBool (markY y.1).done), (12, Cont.cells 3 [Ty.int .i64 (foldK b c (headP y.1) (markY y.1) k).left]), (14, Cont.cells 37 (TurE.tys (nth (turnsL b (headP y.1)) k))), (15, Cont.cells 91 (plT (moved (headP y.1) (nth (turnsL b (headP y.1)) k)))), (17, Cont.cells 95 (wayT ((mget (foldK b c (headP y.1) (markY y.1) k).ways (moved (headP y.1) (nth (turnsL b (headP y.1)) k))).getD way0))), (19, Cont.mp (encN 6) WayV (foldK b c (headP y.1) (markY y.1) k).ways), (27, Cont.mr (Value.int .i64) PlE 91 4096 (foldK b c (headP y.1) (markY y.1) k).queue)]) ?_ ?_
                  · (refine Ent.mk' ?_ ?_ <;> (repeat' (first | exact allSub_zero | exact allTags_nil | refine allSub_succ' ?_ (Ty.sub_any _) | refine allSub_succ' ?_ (Ty.sub_refl _) | refine allTags_cons rfl (Cont.sub_refl _) ?_)))
                  refine t_draw mixed rfl ?_
                  refine mvB rfl ?_
                  refine mvB rfl ?_
                  apply r_guard (s := 95) rfl rfl rfl
                  · intro hg; apply opT_of; (refine mvI rfl ?_); refine r_nil ?_; exact rfl
                  · exact rfl
                  · exact rfl
                  apply r_guard (s := 95) rfl rfl rfl
                  · intro hg; apply opT_of; (refine r_field_ptr rfl rfl rfl rfl rfl (by decide) ?_); refine r_nil ?_; exact rfl
                  · exact rfl
                  · exact rfl
                  apply r_guard (s := 95) rfl rfl rfl
                  · intro hg; apply opT_strip (s := 97) rfl (by (rw [hg]; rfl)); apply opT_of; (refine r_load_ptr rfl rfl (by decide) rfl rfl rfl ?_); refine r_nil ?_; exact rfl
                  · exact rfl
                  · exact rfl
                  apply r_guard (s := 95) rfl rfl rfl
                  · intro hg; apply opT_strip (s := 98) rfl (by (rw [hg]; rfl)); apply opT_of; (refine r_buildSlice (E := I64) (xs := [_]) rfl rfl rfl rfl rfl (by decide) (by decide) (by repeat (first | exact (Parts.nil : Parts _ _ [] _) | (show Parts _ _ ((_, _) :: _) _; apply Parts.one; (· exact (rfl : _ = Ty.int _ _)); (· exact rfl)))) (by exact rfl) rfl ?_); refine r_nil ?_; exact rfl
                  · exact rfl
                  · exact rfl
                  apply r_guard (s := 95) rfl rfl rfl
                  · intro hg; apply opT_strip (s := 96) rfl (by (rw [hg]; rfl)); apply opT_strip (s := 99) rfl (by (rw [hg]; rfl)); apply opT_of; (refine r_call (c_least _ _) rfl rfl rfl rfl rfl ?_); refine r_nil ?_; exact rfl
                  · exact rfl
                  · exact rfl
                  apply r_guard (s := 95) rfl rfl rfl
                  · intro hg; apply opT_of; (refine r_field_ptr rfl rfl rfl rfl rfl (by decide) ?_); refine r_nil ?_; exact rfl
                  · exact rfl
                  · exact rfl
                  apply r_guard (s := 95) rfl rfl rfl
                  · intro hg; apply opT_strip (s := 101) rfl (by (rw [hg]; rfl)); apply opT_of; (refine r_load_ptr rfl rfl (by decide) rfl rfl rfl ?_); refine r_nil ?_; exact rfl
                  · exact rfl
                  · exact rfl
                  apply r_guard (s := 95) rfl rfl rfl
                  · intro hg; apply opT_strip (s := 100) rfl (by (rw [hg]; rfl)); apply opT_strip (s := 102) rfl (by (rw [hg]; rfl)); apply opT_of; (refine r_bin rfl rfl rfl ?_); refine r_nil ?_; exact rfl
                  · exact rfl
                  · exact rfl
                  refine r_and rfl rfl ?_
                  refine r_nil ?_
                  refine ⟨by kernel_rfl, ?_⟩
                  refine i_then ?_
                  refine t_cond rfl (fun hc5 => ?_) (fun hc5 => ?_)
                  ·
                    refine t_exit ?_
                    refine i_then_exit ?_
                    refine i_block_exit rfl ?_
                    refine q_normal ?_
                    (refine Ent.mk' ?_ ?_ <;> (repeat' (first | exact allSub_zero | exact allTags_nil | exact subs_nil | refine allSub_succ' ?_ (Ty.sub_any _) | refine allTags_cons rfl (Cont.sub_refl _) ?_ | refine allTags_cons rfl (Cont.sub_subs ?_) ?_ | refine subs_cons ?_ ?_ | refine allTags_cons rfl ?_ ?_)))
                    all_goals first | exact Ty.sub_int (congrArg St.left (fk_yes hk1 hfn hc5)) | exact Cont.sub_mp (congrArg St.ways (fk_yes hk1 hfn hc5)) | exact Cont.sub_mr (congrArg St.queue (fk_yes hk1 hfn hc5))
                  ·
                    refine t_skip ?_
                    refine i_then ?_
                    refine t_seq ?_
                    refine t_region ?_
                    refine r_field_ptr rfl rfl rfl rfl rfl (by decide) ?_
                    refine r_load_ptr rfl rfl (by decide) rfl rfl rfl ?_
                    refine r_load_ptrN rfl rfl (by decide) rfl rfl (by exact Nat.le_of_ble_eq_true rfl) ?_
                    refine r_load_ptrN rfl rfl (by decide) rfl rfl (by exact Nat.le_of_ble_eq_true rfl) ?_
                    refine r_load_ptrN rfl rfl (by decide) rfl rfl (by exact Nat.le_of_ble_eq_true rfl) ?_
                    refine r_buildSlice (E := TurE) (xs := [nth (turnsL b (headP y.1)) k]) rfl rfl rfl rfl rfl (by decide) (by decide) (by repeat (first | exact (Parts.nil : Parts _ _ [] _) | (show Parts _ _ ((_, _) :: _) _; apply Parts.agg; (· exact (rfl : _ = Ty.agg _))))) (by exact rfl) rfl ?_
                    refine mvI rfl ?_
                    refine r_build rfl rfl (by exact List.cons_ne_nil _ _) rfl (by repeat (first | exact (Parts.nil : Parts _ _ [] _) | (show Parts _ _ ((_, _) :: _) _; apply Parts.one; (· first | exact (rfl : _ = Ty.int _ _) | exact (rfl : _ = Ty.sl _ _)); (· exact rfl)) | (show Parts _ _ ((_, _) :: _) _; apply Parts.agg; (· exact (rfl : _ = Ty.agg _))))) (by exact rfl) ?_
                    refine r_mapUpdate plKey (k := moved (headP y.1) (nth (turnsL b (headP y.1)) k)) (v := ⟨headP y.1, [nth (turnsL b (headP y.1)) k], y.1.now + c (nth (turnsL b (headP y.1)) k)⟩) rfl rfl (by decide) rfl (key_pl _) rfl rfl mapT121 ?_
                    refine r_nil ?_
                    refine i_then ?_
                    refine t_seq ?_
                    refine t_forget (B := live [(0, Ty.pe DeskE ⟨b, firstP b⟩ 0), (2, Ty.bool all), (4, Ty.pp [Ty.nd ct hd hcd]), (6, Ty.ptr 7 0), (7, Ty.ptr 8 0), (8, Ty.ptr 9 0), (9, Ty.mp 34), (10, Ty.ptr 11 0), (11, Ty.ptr 12 0), (12, Ty.ptr 13 0), (13, Ty.ptr 14 0), (14, Ty.ptr 15 0), (15, Ty.int .i64 (y.1.now + c (nth (turnsL b (headP y.1)) k)))] [(7, Cont.cells 98 [Ty.ex (.map none), Ty.int .i64 0, Ty.int .i64 0, Ty.int .i64 0, Ty.int .i64 0, Ty.int .i64 0, Ty.int .i64 0, Ty.bool false]), (8, Cont.cells 98 [Ty.mp 19, Ty.int .i64 0, Ty.int .i64 0, Ty.int .i64 0, Ty.int .i64 0, Ty.int .i64 0, Ty.int .i64 0, Ty.bool false]), (9, Cont.cells 156 [Ty.mp 27]), (11, Cont.cells 3 [Ty.int .i64 y.1.now]), (13, Cont.cells 91 (plT (headP y.1))), (34, Cont.mp (encN 6) VBool (markY y.1).done), (12, Cont.cells 3 [Ty.int .i64 (foldK b c (headP y.1) (markY y.1) k).left]), (14, Cont.cells 37 (TurE.tys (nth (turnsL b (headP y.1)) k))), (15, Cont.cells 91 (plT (moved (headP y.1) (nth (turnsL b (headP y.1)) k)))), (19, Cont.mp (encN 6) WayV (mput (foldK b c (headP y.1) (markY y.1) k).ways (moved (headP y.1) (nth (turnsL b (headP y.1)) k)) ⟨headP y.1, [(nth (turnsL b (headP y.1)) k)], (y.1.now + c (nth (turnsL b (headP y.1)) k))⟩)), (27, Cont.mr (Value.int .i64) PlE 91 4096 (foldK b c (headP y.1) (markY y.1) k).queue)]) ?_ ?_
                    · (refine Ent.mk' ?_ ?_ <;> (repeat' (first | exact allSub_zero | exact allTags_nil | refine allSub_succ' ?_ (Ty.sub_any _) | refine allSub_succ' ?_ (Ty.sub_refl _) | refine allTags_cons rfl (Cont.sub_refl _) ?_)))
                    refine t_draw mixed rfl ?_
                    refine r_load_ptr rfl rfl (by decide) rfl rfl rfl ?_
                    refine mvI rfl ?_
                    refine r_load_ptr rfl rfl (by decide) rfl rfl rfl ?_
                    refine mvI rfl ?_
                    refine r_lookupQ i3Key (k := y.1.now + c (nth (turnsL b (headP y.1)) k)) rfl rfl (by decide) rfl key_int mapT158 zero148 ?_
                    refine r_load_ptrN rfl rfl (by decide) rfl rfl (by exact Nat.le_of_ble_eq_true rfl) ?_
                    refine r_buildSlice (E := PlE) (xs := [moved (headP y.1) (nth (turnsL b (headP y.1)) k)]) rfl rfl rfl rfl rfl (by decide) (by decide) (by repeat (first | exact (Parts.nil : Parts _ _ [] _) | (show Parts _ _ ((_, _) :: _) _; apply Parts.agg; (· exact (rfl : _ = Ty.agg _))))) (by exact rfl) rfl ?_
                    refine r_appendQ rfl rfl rfl (by decide) (by decide) rfl (by show 0 < 1; decide) rfl rfl rfl rfl rfl (by decide) (by show (_ + 1) * 48 ≤ _; omega) (by show _ + 1 ≤ _; omega) ?_
                    refine r_updateQ i3Key (k := y.1.now + c (nth (turnsL b (headP y.1)) k)) rfl rfl (by decide) rfl key_int rfl mapT158 rfl ?_
                    refine r_nil ?_
                    refine ⟨by kernel_rfl, ?_⟩
                    refine i_then ?_
                    refine t_region ?_
                    refine r_load_ptr rfl rfl (by decide) rfl rfl rfl ?_
                    refine r_add rfl rfl (by omega) (by omega) ?_
                    refine r_store1 rfl rfl (by decide) rfl rfl (by exact (rfl : _ = Ty.int _ _)) rfl (by exact Nat.le_of_ble_eq_true rfl) rfl rfl (by exact (rfl : _ = [_])) ?_
                    refine r_nil ?_
                    refine i_block ?_
                    refine q_normal ?_
                    (refine Ent.mk' ?_ ?_ <;> (repeat' (first | exact allSub_zero | exact allTags_nil | exact subs_nil | refine allSub_succ' ?_ (Ty.sub_any _) | refine allTags_cons rfl (Cont.sub_refl _) ?_ | refine allTags_cons rfl (Cont.sub_subs ?_) ?_ | refine subs_cons ?_ ?_ | refine allTags_cons rfl ?_ ?_)))
                    all_goals first | exact Ty.sub_int (fk_no hk1 hfn hc5).2.2 | exact Cont.sub_mp (fk_no hk1 hfn hc5).1 | exact Cont.sub_mr (fk_no hk1 hfn hc5).2.1
              ·
                refine i_block ?_
                refine i_block ?_
                refine i_round (⟨foldK b c (headP y.1) (markY y.1) (turnsL b (headP y.1)).length, y.2.new hr hc hlen hc3 hc4⟩) ?_ (by exact mu_new y.2.inv hr (row_head hlen) hc3 hmk.1)
                (refine Ent.mk' ?_ ?_ <;> (repeat' (first | exact allSub_zero | exact allTags_nil | exact subs_nil | refine allSub_succ' ?_ (Ty.sub_any _) | refine allSub_succ' ?_ (Ty.sub_refl _) | refine allTags_cons rfl (Cont.sub_refl _) ?_ | refine allTags_cons rfl (Cont.sub_subs ?_) ?_ | refine subs_cons ?_ ?_ | refine allTags_cons rfl ?_ ?_)))
                all_goals skip
                all_goals first | exact Ty.sub_int (foldK_now (markY y.1) _).symm | exact Ty.sub_int (congrArg (fun n => (foldK b c (headP y.1) (markY y.1) n).left) (List.length_map _)) | exact Cont.sub_mp (congrArg (fun n => (foldK b c (headP y.1) (markY y.1) n).ways) (List.length_map _)) | exact Cont.sub_mr (congrArg (fun n => (foldK b c (headP y.1) (markY y.1) n).queue) (List.length_map _)) | exact Cont.sub_mp (foldK_done (markY y.1) _).symm
        ·
          refine t_exit ?_
          refine i_then_exit ?_
          refine i_then_exit ?_
          refine i_block_exit rfl ?_
          refine i_then ?_
          have hempty : rowAt y.1.queue y.1.now = [] := List.length_eq_zero_iff.1 (by have h := hc2; have h : ¬ (0 : Int) < ((rowAt y.1.queue y.1.now).length : Nat) := h; omega)
          have hlater := y.2.later hr hempty
          have hnx := x.2.1.now_le hr hc1
          have hnx0 := x.2.1.now0
          have hyx := y.2.now
          refine t_region ?_
          refine r_load_ptr rfl rfl (by decide) rfl rfl rfl ?_
          refine r_load_ptr rfl rfl (by decide) rfl rfl rfl ?_
          refine r_deleteQ i3Key (k := y.1.now) rfl rfl (by decide) rfl key_int mapT158 rfl ?_
          refine r_nil ?_
          refine i_block ?_
          refine i_then ?_
          refine t_seq ?_
          refine t_seq ?_
          refine t_region ?_
          refine r_load_ptr rfl rfl (by decide) rfl rfl rfl ?_
          refine r_load_ptr rfl rfl (by decide) rfl rfl rfl ?_
          refine r_nil ?_
          refine i_then ?_
          refine t_region ?_
          refine r_alloc rfl (by exact List.cons_ne_nil _ _) rfl ?_
          refine r_store1 rfl rfl (by decide) rfl rfl (by exact (rfl : _ = Ty.int _ _)) rfl (by exact Nat.le_of_ble_eq_true rfl) rfl rfl (by exact (rfl : _ = [_])) ?_
          refine r_alloc rfl (by exact List.cons_ne_nil _ _) rfl ?_
          refine r_store1 rfl rfl (by decide) rfl rfl (by exact (rfl : _ = Ty.int _ _)) rfl (by exact Nat.le_of_ble_eq_true rfl) rfl rfl (by exact (rfl : _ = [_])) ?_
          refine r_nil ?_
          refine i_then ?_
          refine t_region ?_
          refine r_load_ptr rfl rfl (by decide) rfl rfl rfl ?_
          refine r_add rfl rfl (by omega) (by omega) ?_
          refine r_store1 rfl rfl (by decide) rfl rfl (by exact (rfl : _ = Ty.int _ _)) rfl (by exact Nat.le_of_ble_eq_true rfl) rfl rfl (by exact (rfl : _ = [_])) ?_
          refine r_nil ?_
          refine i_round (⟨later y.1, (hlater).1, (hlater).2.1⟩) ?_ (by exact hlater.2.2)
          (refine Ent.mk' ?_ ?_ <;> (repeat' (first | exact allSub_zero | exact allTags_nil | refine allSub_succ' ?_ (Ty.sub_any _) | refine allSub_succ' ?_ (Ty.sub_refl _) | refine allTags_cons rfl (Cont.sub_refl _) ?_)))
          all_goals skip
    ·
      refine t_exit ?_
      refine i_then_exit ?_
      refine i_then_exit ?_
      refine i_block_exit rfl ?_
      refine i_then ?_
      refine t_seq ?_
      (refine t_pubC (tg := 19) [] [(8, Cont.cells 98 [Ty.pm (encN 6) WayV x.1.ways, Ty.int .i64 0, Ty.int .i64 0, Ty.int .i64 0, Ty.int .i64 0, Ty.int .i64 0, Ty.int .i64 0, Ty.bool false])] (by decide) rfl trivial ⟨pubC_cells rfl rfl ⟨pubTy_mp rfl (by decide), pubTy_same rfl, pubTy_same rfl, pubTy_same rfl, pubTy_same rfl, pubTy_same rfl, pubTy_same rfl, pubTy_same rfl, trivial⟩, trivial⟩ ?_; refine t_forget (B := live [(6, Ty.ptr 7 0), (7, Ty.ptr 8 0)] [(7, Cont.cells 98 [Ty.ex (.map none), Ty.int .i64 0, Ty.int .i64 0, Ty.int .i64 0, Ty.int .i64 0, Ty.int .i64 0, Ty.int .i64 0, Ty.bool false]), (8, Cont.cells 98 [Ty.pm (encN 6) WayV x.1.ways, Ty.int .i64 0, Ty.int .i64 0, Ty.int .i64 0, Ty.int .i64 0, Ty.int .i64 0, Ty.int .i64 0, Ty.bool false])]) ?_ ?_)
      · (refine Ent.mk' ?_ ?_ <;> (repeat' (first | exact allSub_zero | exact allTags_nil | refine allSub_succ' ?_ (Ty.sub_any _) | refine allSub_succ' ?_ (Ty.sub_refl _) | refine allTags_cons rfl (Cont.sub_refl _) ?_)))
      refine t_region ?_
      refine r_load_ptrN rfl rfl (by decide) rfl rfl (by exact Nat.le_of_ble_eq_true rfl) ?_
      refine r_storeN rfl rfl (by decide) rfl rfl rfl rfl rfl rfl ?_
      refine r_nil ?_
      refine i_then ?_
      refine t_ret ?_
      refine i_scope_ret ?_
      refine m_ret rfl ?_
      refine i_rcell rfl rfl rfl rfl (by decide) rfl rfl rfl ?_
      exact ret_eq rfl rfl (by rw [x.2.2.stop (step_end (by omega)), found_zero]; rfl)
end Go.Proofs.YtpnndljmhpepgaaGreat

namespace Go.Proofs.YtpnndljmhpepgaaGreat
open Go Go.T
set_option maxHeartbeats 4000000
theorem planE_1 {b : Barn} {c : Tur → Int} (h : ¬ checkB b = 0) : planE b c = checkB b := if_neg h
theorem planE_2 {b : Barn} {c : Tur → Int} (h : checkB b = 0) (hi : (searchM b c false).is = false) : planE b c = 7 := by unfold planE; rw [if_pos h, if_neg (by rw [hi]; decide)]
theorem planE_3 {b : Barn} {c : Tur → Int} (h : checkB b = 0) (hi : (searchM b c false).is = true) : planE b c = 0 := by unfold planE; rw [if_pos h, if_pos hi]
theorem planR_1 {b : Barn} {c : Tur → Int} (h : ¬ checkB b = 0) : planR b c = [] := if_neg h
theorem planR_2 {b : Barn} {c : Tur → Int} (h : checkB b = 0) (hi : (searchM b c false).is = false) : planR b c = [] := by unfold planR planV; rw [if_pos h, if_neg (by rw [hi]; decide)]
theorem planR_3 {b : Barn} {c : Tur → Int} (h : checkB b = 0) (hi : (searchM b c false).is = true) : (waysV b c).flatten = planR b c := by unfold planR planV; rw [if_pos h, if_pos hi]
theorem costR_1 {b : Barn} {c : Tur → Int} (h : ¬ checkB b = 0) : costR b c = 0 := if_neg h
theorem costR_2 {b : Barn} {c : Tur → Int} (h : checkB b = 0) (hi : (searchM b c false).is = false) : costR b c = 0 := by unfold costR costV; rw [if_pos h, if_neg (by rw [hi]; decide)]
theorem costR_3 {b : Barn} {c : Tur → Int} (h : checkB b = 0) (hi : (searchM b c false).is = true) : ((mget (searchM b c false).ways (searchM b c false).last).getD way0).all = costR b c := by unfold costR costV; rw [if_pos h, if_pos hi]
theorem plan_len {b : Barn} {c : Tur → Int} (h : b.Right) (hc : CostOk b c) (hi : (searchM b c false).is = true) : (waysV b c).flatten.length ≤ 400000000 := by
  have := (plan_spec h hc).len hi; omega
attribute [local irreducible] dInt dBool dSl dPp dPtr dAgg dTup dClo dAny dEx dStr dGd dCells dVec dVs dRow dOp nth Tri Into TOps Ctr bodyPost Exit.then Exit.inBlock Code.wp Code.wpIn dWhen dPa dPe dAo dArr dMp dPm dMap dCJ CtrG CtrI OpY keepPost iterPost bodyPostM roundQ
set_option maxRecDepth 100000 in
theorem c_planned (b : Barn) (hs : b.Small) (c : Tur → Int) (hc : checkB b = 0 → CostOk b c) (ct : Ty) (h1 : ct.one = true) (hd : ct.deps = []) (hcd : ct.cdeps = []) (hf : checkB b = 0 → ∀ t : Tur, 0 ≤ t.lot → t.lot < b.lots.length → Cal Tryz.prog ct [Ty.agg (TurE.tys t)] (Ty.int .i64 (c t))) : Ctr Tryz.prog 53 [barnT b, Ty.agg [Ty.nd ct hd hcd]] (Ty.tup [Ty.sl TurE (planR b c), Ty.int .i64 (costR b c), Ty.int .i64 (planE b c)]) := by
  refine fn_intro Tryz.func53 rfl (by decide) Tryz.ntmps53 (by exact Nat.le_of_ble_eq_true rfl) fun w0 M0 => ?_
  refine t_seq ?_
  refine t_region ?_
  refine r_box_agg rfl ?_
  refine r_box_agg rfl ?_
  refine asX rfl ?_
  refine asI rfl ?_
  refine asI rfl ?_
  refine r_nil ?_
  refine i_then ?_
  refine t_seq ?_
  refine t_region ?_
  refine r_load_ppN rfl rfl rfl (by exact Nat.le_of_ble_eq_true rfl) ?_
  refine r_call (c_open b hs) rfl rfl rfl rfl rfl ?_
  refine mvT rfl ?_
  refine r_extract rfl rfl ?_
  refine r_extract rfl rfl ?_
  refine asW rfl ?_
  refine asI rfl ?_
  refine r_nil ?_
  refine i_then ?_
  refine t_seq ?_
  refine t_seq ?_
  refine t_region ?_
  refine mvI rfl ?_
  refine r_bin rfl rfl rfl ?_
  refine r_nil ?_
  refine i_then ?_
  refine t_cond_ndec rfl (fun hc1 => ?_) (fun hc1 => ?_)
  ·
    refine t_seq ?_
    refine t_region ?_
    refine mvI rfl ?_
    refine asX rfl ?_
    refine asI rfl ?_
    refine asI rfl ?_
    refine r_nil ?_
    refine i_then ?_
    refine t_ret ?_
    refine i_then_ret ?_
    refine i_rp3 rfl rfl rfl rfl ?_ ?_ ?_
    all_goals skip
    all_goals first | exact ret_nil_eq (planR_1 hc1) | exact ret_eq rfl rfl (congrArg (Ty.int .i64) (costR_1 hc1).symm) | exact ret_eq rfl rfl (congrArg (Ty.int .i64) (planE_1 hc1).symm)
  ·
    refine t_skip ?_
    refine i_then ?_
    refine t_seq ?_
    have hr := check_right hc1
    refine t_as (s := 7) rfl (Ty.when_sub (decide_eq_true hc1)) ?_
    refine t_region ?_
    refine mvPe rfl ?_
    refine r_load_ppN rfl rfl rfl (by exact Nat.le_of_ble_eq_true rfl) ?_
    refine r_call (c_search b hr c (hc hc1) ct h1 hd hcd (hf hc1) false) rfl rfl rfl rfl rfl ?_
    refine r_alloc rfl (by exact List.cons_ne_nil _ _) rfl ?_
    refine r_storeN rfl rfl (by decide) rfl rfl rfl rfl rfl rfl ?_
    refine r_nil ?_
    refine i_then ?_
    refine t_seq ?_
    refine t_seq ?_
    refine t_region ?_
    refine r_field_ptr rfl rfl rfl rfl rfl (by decide) ?_
    refine r_load_ptr rfl rfl (by decide) rfl rfl rfl ?_
    refine r_not rfl ?_
    refine r_nil ?_
    refine i_then ?_
    refine t_cond rfl (fun hc2 => ?_) (fun hc2 => ?_)
    ·
      refine t_seq ?_
      refine t_region ?_
      refine asX rfl ?_
      refine asI rfl ?_
      refine asI rfl ?_
      refine r_nil ?_
      refine i_then ?_
      refine t_ret ?_
      refine i_then_ret ?_
      refine i_rp3 rfl rfl rfl rfl ?_ ?_ ?_
      all_goals skip
      all_goals first | exact ret_nil_eq (planR_2 hc1 (not_b hc2)) | exact ret_eq rfl rfl (congrArg (Ty.int .i64) (costR_2 hc1 (not_b hc2)).symm) | exact ret_eq rfl rfl (congrArg (Ty.int .i64) (planE_2 hc1 (not_b hc2)).symm)
    ·
      refine t_skip ?_
      refine i_then ?_
      refine t_seq ?_
      refine t_draw mixed rfl ?_
      refine r_load_ptrN rfl rfl (by decide) rfl rfl (by exact Nat.le_of_ble_eq_true rfl) ?_
      refine mvPe rfl ?_
      refine r_nilCheck_pe rfl ?_
      refine r_field_pe rfl rfl rfl rfl rfl (by decide) ?_
      refine r_load_peN rfl rfl rfl rfl rfl ?_
      refine r_call (c_plan (searchM b c false) (firstP b) (waysV b c) ((plan_spec hr (hc hc1)).chain (not_not_b hc2)) ((plan_spec hr (hc hc1)).len (not_not_b hc2)).1) rfl rfl rfl rfl rfl ?_
      refine r_call (c_Concat_tur (waysV b c) (plan_len hr (hc hc1) (not_not_b hc2))) rfl rfl rfl rfl rfl ?_
      refine r_field_ptr rfl rfl rfl rfl rfl (by decide) ?_
      refine r_load_ptr rfl rfl (by decide) rfl rfl rfl ?_
      refine r_field_ptr rfl rfl rfl rfl rfl (by decide) ?_
      refine r_load_ptrN rfl rfl (by decide) rfl rfl (by exact Nat.le_of_ble_eq_true rfl) ?_
      refine r_lookupP plKey (k := (searchM b c false).last) (z0 := way0) rfl rfl (key_pl _) mapT121 zero147 way_zero ?_
      refine r_fieldv1 rfl rfl rfl rfl rfl rfl rfl ?_
      refine asS rfl ?_
      refine asI rfl ?_
      refine asI rfl ?_
      refine r_nil ?_
      refine ⟨by kernel_rfl, ?_⟩
      refine i_then ?_
      refine t_ret ?_
      refine i_rp3 rfl rfl rfl rfl ?_ ?_ ?_
      all_goals skip
      all_goals first | exact ret_eq rfl rfl (congrArg (Ty.sl TurE) (planR_3 hc1 (not_not_b hc2))) | exact ret_eq rfl rfl (congrArg (Ty.int .i64) (costR_3 hc1 (not_not_b hc2))) | exact ret_eq rfl rfl (congrArg (Ty.int .i64) (planE_3 hc1 (not_not_b hc2)).symm)
set_option maxRecDepth 100000 in
theorem c_Fewest1 (t : Tur) : Ctr Tryz.prog 80 [Ty.agg (TurE.tys t)] (Ty.int .i64 1) := by
  refine fn_intro Tryz.func80 rfl (by decide) Tryz.ntmps80 (by exact Nat.le_of_ble_eq_true rfl) fun w0 M0 => ?_
  refine t_seq ?_
  refine t_region ?_
  refine r_box_agg rfl ?_
  refine asI rfl ?_
  refine r_nil ?_
  refine i_then ?_
  refine t_seq ?_
  refine t_region ?_
  refine asI rfl ?_
  refine r_nil ?_
  refine i_then ?_
  refine t_ret ?_
  refine i_rp1 rfl rfl ?_
  all_goals exact ret_refl rfl rfl
set_option maxRecDepth 100000 in
theorem c_Places1 (t : Tur) : Ctr Tryz.prog 84 [Ty.agg (TurE.tys t)] (Ty.int .i64 1) := by
  refine fn_intro Tryz.func84 rfl (by decide) Tryz.ntmps84 (by exact Nat.le_of_ble_eq_true rfl) fun w0 M0 => ?_
  refine t_seq ?_
  refine t_region ?_
  refine r_box_agg rfl ?_
  refine asI rfl ?_
  refine r_nil ?_
  refine i_then ?_
  refine t_seq ?_
  refine t_region ?_
  refine asI rfl ?_
  refine r_nil ?_
  refine i_then ?_
  refine t_ret ?_
  refine i_rp1 rfl rfl ?_
  all_goals exact ret_refl rfl rfl
set_option maxRecDepth 100000 in
theorem c_Lightest1 (b : Barn) (t : Tur) (h0 : 0 ≤ t.lot) (h1 : t.lot < b.lots.length) : Ctr Tryz.prog 81 [Ty.agg (TurE.tys t), Ty.pp (barnTys b)] (Ty.int .i64 (sackC b t)) := by
  refine fn_intro Tryz.func81 rfl (by decide) Tryz.ntmps81 (by exact Nat.le_of_ble_eq_true rfl) fun w0 M0 => ?_
  refine t_seq ?_
  refine t_region ?_
  refine r_box_agg rfl ?_
  refine asI rfl ?_
  refine r_nil ?_
  refine i_then ?_
  refine t_seq ?_
  refine t_region ?_
  refine r_field_pp rfl rfl rfl rfl rfl (by decide) ?_
  refine r_load_pp rfl rfl rfl rfl ?_
  refine r_field_pp rfl rfl rfl rfl rfl (by decide) ?_
  refine r_load_pp rfl rfl rfl rfl ?_
  refine r_index_sl rfl rfl rfl rfl rfl rfl h0 (by omega) ?_
  refine r_field_pp rfl rfl rfl rfl rfl (by decide) ?_
  refine r_load_pp rfl rfl rfl rfl ?_
  refine asI rfl ?_
  refine r_nil ?_
  refine i_then ?_
  refine t_ret ?_
  refine i_rp1 rfl rfl ?_
  all_goals exact ret_refl rfl rfl
set_option maxRecDepth 100000 in
theorem c_Fewest (b : Barn) (hs : b.Small) : Ctr Tryz.prog 29 [barnT b] (Ty.tup [Ty.int .i64 (costR b oneC), Ty.int .i64 (planE b oneC)]) := by
  refine fn_intro Tryz.func29 rfl (by decide) Tryz.ntmps29 (by exact Nat.le_of_ble_eq_true rfl) fun w0 M0 => ?_
  refine t_seq ?_
  refine t_region ?_
  refine r_box_agg rfl ?_
  refine asI rfl ?_
  refine asI rfl ?_
  refine r_nil ?_
  refine i_then ?_
  refine t_seq ?_
  refine t_region ?_
  refine r_load_ppN rfl rfl rfl (by exact Nat.le_of_ble_eq_true rfl) ?_
  refine r_build rfl rfl (by exact List.cons_ne_nil _ _) rfl (by repeat (first | exact (Parts.nil : Parts _ _ [] _) | (show Parts _ _ ((_, _) :: _) _; apply Parts.one; (· exact (rfl : _ = Ty.clo _ _)); (· exact rfl)))) (by exact (rfl : _ = some [_])) ?_
  refine r_call (c_planned b hs oneC (fun _ => one_ok b) (Ty.clo 80 []) rfl rfl rfl (fun _ t _ _ => cal_clo (c_Fewest1 t) rfl rfl rfl rfl rfl rfl)) rfl rfl rfl rfl rfl ?_
  refine mvT rfl ?_
  refine r_extract rfl rfl ?_
  refine r_extract rfl rfl ?_
  refine r_extract rfl rfl ?_
  refine asS rfl ?_
  refine asI rfl ?_
  refine asI rfl ?_
  refine r_nil ?_
  refine i_then ?_
  refine t_seq ?_
  refine t_region ?_
  refine mvI rfl ?_
  refine mvI rfl ?_
  refine asI rfl ?_
  refine asI rfl ?_
  refine r_nil ?_
  refine i_then ?_
  refine t_ret ?_
  refine i_rp2 rfl rfl rfl ?_ ?_
  all_goals exact ret_refl rfl rfl
set_option maxRecDepth 100000 in
theorem c_Lightest (b : Barn) (hs : b.Small) : Ctr Tryz.prog 30 [barnT b] (Ty.tup [Ty.sl TurE (planR b (sackC b)), Ty.int .i64 (costR b (sackC b)), Ty.int .i64 (planE b (sackC b))]) := by
  refine fn_intro Tryz.func30 rfl (by decide) Tryz.ntmps30 (by exact Nat.le_of_ble_eq_true rfl) fun w0 M0 => ?_
  refine t_seq ?_
  refine t_region ?_
  refine r_box_agg rfl ?_
  refine asX rfl ?_
  refine asI rfl ?_
  refine asI rfl ?_
  refine r_nil ?_
  refine i_then ?_
  refine t_seq ?_
  refine t_region ?_
  refine r_load_ppN rfl rfl rfl (by exact Nat.le_of_ble_eq_true rfl) ?_
  refine r_makeFunc rfl ?_
  refine r_build rfl rfl (by exact List.cons_ne_nil _ _) rfl (by repeat (first | exact (Parts.nil : Parts _ _ [] _) | (show Parts _ _ ((_, _) :: _) _; apply Parts.one; (· exact (rfl : _ = Ty.clo _ _)); (· exact rfl)))) (by exact (rfl : _ = some [_])) ?_
  refine r_call (c_planned b hs (sackC b) (fun h => sack_ok (check_right h)) (Ty.clo 81 [Ty.pp (barnTys b)]) rfl rfl rfl (fun _ t h0 h1 => cal_clo (c_Lightest1 b t h0 h1) rfl rfl rfl rfl rfl rfl)) rfl rfl rfl rfl rfl ?_
  refine r_extract rfl rfl ?_
  refine r_extract rfl rfl ?_
  refine r_extract rfl rfl ?_
  refine asS rfl ?_
  refine asI rfl ?_
  refine asI rfl ?_
  refine r_nil ?_
  refine i_then ?_
  refine t_ret ?_
  refine i_rp3 rfl rfl rfl rfl ?_ ?_ ?_
  all_goals exact ret_refl rfl rfl
set_option maxRecDepth 100000 in
theorem c_Places (b : Barn) (hs : b.Small) : Ctr Tryz.prog 31 [barnT b] (Ty.tup [Ty.int .i64 (placesV b), Ty.int .i64 (checkB b)]) := by
  refine fn_intro Tryz.func31 rfl (by decide) Tryz.ntmps31 (by exact Nat.le_of_ble_eq_true rfl) fun w0 M0 => ?_
  refine t_seq ?_
  refine t_region ?_
  refine r_box_agg rfl ?_
  refine asI rfl ?_
  refine asI rfl ?_
  refine r_nil ?_
  refine i_then ?_
  refine t_seq ?_
  refine t_region ?_
  refine r_load_ppN rfl rfl rfl (by exact Nat.le_of_ble_eq_true rfl) ?_
  refine r_call (c_open b hs) rfl rfl rfl rfl rfl ?_
  refine mvT rfl ?_
  refine r_extract rfl rfl ?_
  refine r_extract rfl rfl ?_
  refine asW rfl ?_
  refine asI rfl ?_
  refine r_nil ?_
  refine i_then ?_
  refine t_seq ?_
  refine t_seq ?_
  refine t_region ?_
  refine mvI rfl ?_
  refine r_bin rfl rfl rfl ?_
  refine r_nil ?_
  refine i_then ?_
  refine t_cond_ndec rfl (fun hc1 => ?_) (fun hc1 => ?_)
  ·
    refine t_seq ?_
    refine t_region ?_
    refine mvI rfl ?_
    refine asI rfl ?_
    refine asI rfl ?_
    refine r_nil ?_
    refine i_then ?_
    refine t_ret ?_
    refine i_then_ret ?_
    refine i_rp2 rfl rfl rfl ?_ ?_
    all_goals first | exact ret_refl rfl rfl | skip
    all_goals exact ret_eq rfl rfl (congrArg (Ty.int .i64) (if_neg hc1 : placesV b = 0).symm)
  ·
    refine t_skip ?_
    refine i_then ?_
    refine t_seq ?_
    have hr := check_right hc1
    refine t_as (s := 4) rfl (Ty.when_sub (decide_eq_true hc1)) ?_
    refine t_region ?_
    refine mvPe rfl ?_
    refine r_build rfl rfl (by exact List.cons_ne_nil _ _) rfl (by repeat (first | exact (Parts.nil : Parts _ _ [] _) | (show Parts _ _ ((_, _) :: _) _; apply Parts.one; (· exact (rfl : _ = Ty.clo _ _)); (· exact rfl)))) (by exact (rfl : _ = some [_])) ?_
    refine r_call (c_search b hr oneC (one_ok b) (Ty.clo 84 []) rfl rfl rfl (fun t _ _ => cal_clo (c_Places1 t) rfl rfl rfl rfl rfl rfl) true) rfl rfl rfl rfl rfl ?_
    refine r_fieldv1 rfl rfl rfl rfl rfl rfl rfl ?_
    refine r_lenPm rfl mapT121 ?_
    refine asI rfl ?_
    refine asI rfl ?_
    refine r_nil ?_
    refine i_then ?_
    refine t_ret ?_
    refine i_rp2 rfl rfl rfl ?_ ?_
    all_goals skip
    all_goals first | exact ret_eq rfl rfl (congrArg (Ty.int .i64) (if_pos hc1 : placesV b = _).symm) | exact ret_eq rfl rfl (congrArg (Ty.int .i64) hc1.symm)
end Go.Proofs.YtpnndljmhpepgaaGreat

namespace Go.Proofs.YtpnndljmhpepgaaGreat
open Go Go.T
def offAny (b : Barn) (rings : List (List Int)) : Bool := rings.flatten.any fun n => offB n 0 (b.lots.length - 1)
def twiceL (l : List Int) : Bool := (List.range l.length).any fun k => decide (nth l k ∈ l.take k)
def wrongL (b : Barn) (rings : List (List Int)) : Bool := rings.any fun l => !ringB b l
def showV (b : Barn) (rings : List (List Int)) : Int × Int := if checkB b = 0 then showsR b rings else (0, checkB b)
variable {b : Barn} {rings : List (List Int)}
theorem shows_not (h : offAny b rings = true) : showsR b rings = (0, 1) := if_pos h
theorem shows_twice (h0 : offAny b rings = false) (h : twiceL rings.flatten = true) : showsR b rings = (0, 5) := (if_neg (by show ¬ offAny b rings = true; rw [h0]; decide)).trans (if_pos h)
theorem shows_wrong (h0 : offAny b rings = false) (h1 : twiceL rings.flatten = false) (h : wrongL b rings = true) : showsR b rings = (0, 8) :=
  (if_neg (by show ¬ offAny b rings = true; rw [h0]; decide)).trans ((if_neg (by show ¬ twiceL rings.flatten = true; rw [h1]; decide)).trans (if_pos h))
theorem shows_ok (h0 : offAny b rings = false) (h1 : twiceL rings.flatten = false) (h2 : wrongL b rings = false) : showsR b rings = (((mustL b).length + rings.length : Int), (0 : Int)) :=
  (if_neg (by show ¬ offAny b rings = true; rw [h0]; decide)).trans ((if_neg (by show ¬ twiceL rings.flatten = true; rw [h1]; decide)).trans (if_neg (by show ¬ wrongL b rings = true; rw [h2]; decide)))
theorem showV_bad (h : ¬ checkB b = 0) : showV b rings = (0, checkB b) := if_neg h
theorem showV_good (h : checkB b = 0) {x : Int × Int} (e : showsR b rings = x) : showV b rings = x := (if_pos h).trans e
theorem lot_off (n : Int) : (!b.lot n) = offB n 0 (b.lots.length - 1) := by unfold Barn.lot; rw [inB_off]
theorem every_off (v : Bool) (h : (!rings.flatten.all fun n => b.lot n) = v) : offAny b rings = v := by
  rw [← h]; unfold offAny; rw [all_any _ _ _ (fun n => lot_off n)]
theorem not_off (h : offAny b rings = false) {m i : Nat} (hm : m < rings.length) (hi : i < (nth rings m).length) : 0 ≤ nth (nth rings m) i ∧ nth (nth rings m) i < b.lots.length := by
  have h1 := any_none h (x := nth (nth rings m) i) (List.mem_flatten.2 ⟨_, nth_mem hm, nth_mem hi⟩)
  rw [offB_false] at h1; omega
theorem row_flat {m : Nat} (hm : m < rings.length) : (nth rings m).length ≤ rings.flatten.length := by
  have h1 := flat_take_le rings (m + 1)
  rw [flat_take_succ hm, List.length_append] at h1; omega
theorem wrong_at {m : Nat} (hm : m < rings.length) (h : ringB b (nth rings m) = false) : wrongL b rings = true := any_at hm (by rw [h]; rfl)
theorem wrong_ext {m : Nat} (hm : m < rings.length) (h : ∀ l ∈ rings.take m, (!ringB b l) = false) (h2 : ¬ (nth rings m).length < 2) (h3 : ∀ j, j < (nth rings m).length → ringAt b (nth rings m) j = true) : ∀ l ∈ rings.take (m + 1), (!ringB b l) = false :=
  ext_false h hm (by rw [ringB_true h3, decide_eq_true (by omega)]; rfl)
theorem wrong_none {m : Nat} (hm : rings.length ≤ m) (h : ∀ l ∈ rings.take m, (!ringB b l) = false) : wrongL b rings = false := any_neg h hm
theorem contains_idx (l : List Int) (x : Int) : decide (0 ≤ fidx (fun y => decide (x = y)) l) = decide (x ∈ l) := by
  rw [fidx_ge, Bool.eq_iff_iff, List.any_eq_true, decide_eq_true_eq]
  constructor
  · rintro ⟨y, hy, h⟩; rw [of_decide_eq_true h]; exact hy
  · intro h; exact ⟨x, h, decide_eq_true rfl⟩
end Go.Proofs.YtpnndljmhpepgaaGreat
