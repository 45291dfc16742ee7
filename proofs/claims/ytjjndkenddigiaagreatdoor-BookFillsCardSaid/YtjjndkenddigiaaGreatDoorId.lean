/- Lemmas: the program and the reference walked, plain laws. -/
import Derived.Test.YtjjndkenddigiaaGreatDoorIc
namespace Go.Proofs.YtjjndkenddigiaaGreatDoor
open Go Go.T
set_option maxHeartbeats 1000000
theorem u8_i {x y : UInt8} : ((x.toNat : Int) = (y.toNat : Int)) ↔ x = y := ⟨fun h => UInt8.toNat_inj.1 (by omega), fun h => by rw [h]⟩
def tornE (f : BForm) (text : Byt) : Int := if frmY f ≠ 0 then frmY f else if (text.length : Int) > 65536 then 10 else if (tornN text : Int) > 4 then 9 else 0
theorem torn_end {text : Byt} {p : Nat} (h : p ≤ text.length) (h2 : ¬ p < text.length) : tornN (text.take p) = tornN text := by rw [List.take_of_length_le (by omega)]
theorem tornN_le (l : Byt) : tornN l ≤ l.length := List.count_le_length
theorem torn_0 {text : Byt} : (0 : Int) = (tornN (text.take 0) : Nat) := by simp [tornN]
theorem te_1 {f : BForm} {text : Byt} (h : ¬ frmY f = 0) : frmY f = tornE f text := (if_pos h).symm
theorem te_2 {f : BForm} {text : Byt} (h : frmY f = 0) (h2 : 65536 < (text.length : Int)) : 10 = tornE f text := by unfold tornE; rw [if_neg (fun e => e h), if_pos h2]
theorem te_3 {f : BForm} {text : Byt} {p : Nat} (h : frmY f = 0) (h2 : ¬ 65536 < (text.length : Int)) (hp : p ≤ text.length) (h3 : ¬ p < text.length) (h4 : 4 < (tornN (text.take p) : Int)) : 9 = tornE f text := by
  rw [torn_end hp h3] at h4; unfold tornE; rw [if_neg (fun e => e h), if_neg h2, if_pos h4]
theorem te_4 {f : BForm} {text : Byt} {p : Nat} (h : frmY f = 0) (h2 : ¬ 65536 < (text.length : Int)) (hp : p ≤ text.length) (h3 : ¬ p < text.length) (h4 : ¬ 4 < (tornN (text.take p) : Int)) : 0 = tornE f text := by
  rw [torn_end hp h3] at h4; unfold tornE; rw [if_neg (fun e => e h), if_neg h2, if_neg h4]
attribute [local irreducible] tornN runeNext runeAt tornE
attribute [local irreducible] dInt dBool dSl dPp dPtr dAgg dTup dClo dAny dEx dStr dGd dCells dVec dVs dRow dOp nth Tri Into TOps Ctr bodyPost Exit.then Exit.inBlock Code.wp Code.wpIn dWhen dPa dArr dMp dMap CtrG keepPost iterPost bodyPostM roundQ
set_option maxRecDepth 100000 in
theorem c_torn (f : BForm) (text : Byt) : Ctr Tryz.prog 81 [frmT f, Ty.str (bs text)] (Ty.int .i64 (tornE f text)) := by
  refine fn_intro Tryz.func81 rfl (by decide) Tryz.ntmps81 (by exact Nat.le_of_ble_eq_true rfl) fun w0 M0 => ?_
  refine t_seq ?_
  refine t_region ?_
  refine r_box_agg rfl ?_
  refine asI rfl ?_
  refine r_nil ?_
  refine i_then ?_
  refine t_seq ?_
  refine t_seq ?_
  refine t_region ?_
  refine r_load_ppN rfl rfl rfl (by exact Nat.le_of_ble_eq_true rfl) ?_
  refine r_call (c_CheckForm _) rfl rfl rfl rfl rfl ?_
  refine asI rfl ?_
  refine r_nil ?_
  refine i_then ?_
  refine t_seq ?_
  refine t_region ?_
  refine mvI rfl ?_
  refine r_bin rfl rfl rfl ?_
  refine r_nil ?_
  refine i_then ?_
  refine t_cond_ndec rfl (fun hc1 => ?_) (fun hc1 => ?_)
  ·
    refine t_seq ?_
    refine t_region ?_
    refine mvI rfl ?_
    refine asI rfl ?_
    refine r_nil ?_
    refine i_then ?_
    refine t_ret ?_
    refine i_then_ret ?_
    refine i_rp1 rfl rfl ?_
    all_goals skip
    exact ret_eq rfl rfl (congrArg (Ty.int .i64) (te_1 hc1))
  ·
    refine t_skip ?_
    refine i_then ?_
    refine t_seq ?_
    refine t_seq ?_
    refine t_region ?_
    refine mvS' rfl ?_
    refine r_lenS rfl rfl rfl ?_
    refine r_bin rfl rfl rfl ?_
    refine r_nil ?_
    refine i_then ?_
    refine t_cond_dec rfl (fun hc2 => ?_) (fun hc2 => ?_)
    ·
      refine t_seq ?_
      refine t_region ?_
      refine asI rfl ?_
      refine r_nil ?_
      refine i_then ?_
      refine t_ret ?_
      refine i_then_ret ?_
      refine i_rp1 rfl rfl ?_
      all_goals skip
      exact ret_eq rfl rfl (congrArg (Ty.int .i64) (te_2 hc1 hc2))
    ·
      refine t_skip ?_
      refine i_then ?_
      refine t_seq ?_
      refine t_region ?_
      refine asI rfl ?_
      refine r_nil ?_
      refine i_then ?_
      refine t_seq ?_
      refine t_seq ?_
      refine t_region ?_
      refine mvS' rfl ?_
      refine r_rangeS rfl rfl rfl rfl ?_
      refine r_nil ?_
      refine i_then ?_
      refine t_block ?_
      refine t_loop (fun (p : {p : Nat // p ≤ text.length}) => live [(1, Ty.str (bs text)), (2, Ty.pp (frmTys f)), (6, Ty.int .i64 (tornN (text.take p.1) : Nat)), (18, Ty.ptr 19 0)] [(19, Cont.si text p.1)]) (fun p => text.length - p.1) (⟨0, Nat.zero_le _⟩) ?_ fun p => ?_
      · (refine Ent.mk' ?_ ?_ <;> (repeat' (first | exact allSub_zero | exact allTags_nil | refine allSub_succ' ?_ (Ty.sub_any _) | refine allSub_succ' ?_ (Ty.sub_refl _) | refine allTags_cons rfl (Cont.sub_refl _) ?_ | refine allSub_succ' ?_ ?_)))
        all_goals exact Ty.sub_int torn_0
      ·
        have hp0 := p.2
        have hle := tornN_le (text.take p.1)
        have hl2 : (text.take p.1).length = p.1 := List.length_take_of_le hp0
        refine t_seq ?_
        refine t_region ?_
        refine r_nextS rfl rfl (by decide) ?_
        refine r_extN0 rfl ?_
        refine r_nil ?_
        refine i_then ?_
        refine t_seq ?_
        refine t_cond_dec rfl (fun hc3 => ?_) (fun hc3 => ?_)
        ·
          refine t_skip ?_
          refine i_then ?_
          refine t_block ?_
          refine t_seq ?_
          have hp : p.1 < text.length := by omega
          have hst := torn_step hp
          refine t_region ?_
          refine r_extN2 rfl (by omega) ?_
          refine asI rfl ?_
          refine r_nil ?_
          refine i_then ?_
          refine t_seq ?_
          refine t_region ?_
          refine mvI rfl ?_
          refine r_bin rfl rfl rfl ?_
          refine r_nil ?_
          refine i_then ?_
          refine t_cond_dec rfl (fun hc4 => ?_) (fun hc4 => ?_)
          ·
            refine t_region ?_
            refine mvI rfl ?_
            refine r_add rfl rfl (by omega) (by omega) ?_
            refine asI rfl ?_
            refine r_nil ?_
            refine i_block ?_
            refine i_round (⟨runeNext text p.1, hst.1⟩) ?_ (by show text.length - runeNext text p.1 < text.length - p.1; omega)
            (refine Ent.mk' ?_ ?_ <;> (repeat' (first | exact allSub_zero | exact allTags_nil | refine allSub_succ' ?_ (Ty.sub_any _) | refine allSub_succ' ?_ (Ty.sub_refl _) | refine allTags_cons rfl (Cont.sub_refl _) ?_ | refine allSub_succ' ?_ ?_)))
            all_goals skip
            all_goals exact Ty.sub_int (by rw [hst.2.2, if_pos hc4])
          ·
            refine t_skip ?_
            refine i_block ?_
            refine i_round (⟨runeNext text p.1, hst.1⟩) ?_ (by show text.length - runeNext text p.1 < text.length - p.1; omega)
            (refine Ent.mk' ?_ ?_ <;> (repeat' (first | exact allSub_zero | exact allTags_nil | refine allSub_succ' ?_ (Ty.sub_any _) | refine allSub_succ' ?_ (Ty.sub_refl _) | refine allTags_cons rfl (Cont.sub_refl _) ?_ | refine allSub_succ' ?_ ?_)))
            all_goals skip
            all_goals exact Ty.sub_int (by rw [hst.2.2, if_neg hc4, Int.add_zero])
        ·
          refine t_exit ?_
          refine i_then_exit ?_
          refine i_then_exit ?_
          refine i_block_exit rfl ?_
          refine i_then ?_
          refine t_seq ?_
          refine t_seq ?_
          refine t_region ?_
          refine mvI rfl ?_
          refine r_bin rfl rfl rfl ?_
          refine r_nil ?_
          refine i_then ?_
          refine t_cond_dec rfl (fun hc5 => ?_) (fun hc5 => ?_)
          ·
            refine t_seq ?_
            refine t_region ?_
            refine asI rfl ?_
            refine r_nil ?_
            refine i_then ?_
            refine t_ret ?_
            refine i_then_ret ?_
            refine i_rp1 rfl rfl ?_
            all_goals skip
            exact ret_eq rfl rfl (congrArg (Ty.int .i64) (te_3 hc1 hc2 p.2 hc3 hc5))
          ·
            refine t_skip ?_
            refine i_then ?_
            refine t_seq ?_
            refine t_region ?_
            refine asI rfl ?_
            refine r_nil ?_
            refine i_then ?_
            refine t_ret ?_
            refine i_rp1 rfl rfl ?_
            all_goals skip
            exact ret_eq rfl rfl (congrArg (Ty.int .i64) (te_4 hc1 hc2 p.2 hc3 hc5))
end Go.Proofs.YtjjndkenddigiaaGreatDoor

namespace Go.T
open Go Go.RowKit
def dBv (el : Nat) (l : Byt) (w : World) (M : Tags) (t : Nat) : Prop :=
  ∃ b cs lo hi, M b = some t ∧ w.heap[b]? = some (.cells cs el (lo, hi)) ∧ l.length ≤ lo ∧ ∀ j (hj : j < l.length), cs[j]? = some (.int .u8 (l[j].toNat : Int))
def Cont.bv (el : Nat) (l : Byt) : Cont :=
  { den := dBv el l, mono := fun le _ _ hs hk ⟨b, cs, lo, hi, h1, h2, h3⟩ => let ⟨h4, h5⟩ := le.own b _ h1 hk; ⟨b, cs, lo, hi, h4, (h5 hs).trans h2, h3⟩ }
theorem Cont.sub_bv {el : Nat} {l m : Byt} (h : l = m) : (Cont.bv el l).Sub (Cont.bv el m) := h ▸ Cont.sub_refl _
section
variable {P : Program} {fr : Fr} {ops : Array Oper} {A : As} {rest : List Oper} {K : As → List (As × Fx) → Prop} {d : Nat} {t ty' : TypeId} {p : String} {e : Array Edge} {x y : Operand} {a : Byt} {ti te ts : TI} {el tg : Nat} [T : Tab P]
theorem r_convSB {src : TypeId} (hx : A.op fr x = .str (bs a)) (hS : T.tab[src]? = some ts) (hks : ts.k = .string) (hT : T.tab[ty']? = some ti) (hk : ti.k = .slice el) (hu : P.underlying el = some (.int .u8)) (hl : a.length ≤ maxLen) (hp : fr.pass.contains (d + 1) = false)
    (h : TOps P fr ops rest (A.after { d := some d, ty := .vs (d + 1) a.length, K := [d + 1], sets := [(d + 1, .bv el a)], rs := opR x }) fun A' l' => K A' ((A, { d := some d, ty := .vs (d + 1) a.length, K := [d + 1], sets := [(d + 1, .bv el a)], rs := opR x }) :: l')) :
    TOps P fr ops (⟨some d, .convert src ty' x, t, p, e, none⟩ :: rest) A K := by
  refine ⟨_, opT_mem rfl rfl (by simp) (by simp) (by simp at hp ⊢; exact hp) fun ac w M wf hr _ => ?_, h⟩
  have hdx := op_den (x := x) (fun _ h => h) hr
  rw [hx] at hdx
  have ex : ac.eval x = .string (bs a) := hdx
  obtain ⟨_, D, _, hD, hkd, _⟩ := tab_info hT
  rw [hk] at hkd
  cases D <;> simp only [TK.of, reduceCtorEq, TK.slice.injEq] at hkd
  subst hkd
  rename_i el _
  have hrun := run_bytes_of_string (P := P) w src ty' el (bs a) (tab_string hS hks) hD hu
  have wf' : Wf w.drew M := ⟨wf.lt, wf.inj, wf.amb⟩
  obtain ⟨h1, h2, h3⟩ := le_alloc wf' (.cells (bytesRow (bs a) (grownCap w (bs a).size 0 el)) el ((bytesRow (bs a) (grownCap w (bs a).size 0 el)).size, (bytesRow (bs a) (grownCap w (bs a).size 0 el)).size + 1)) (d + 1)
  have hsz : (bs a).size = a.length := bs_size a
  refine ⟨.slice (some ⟨w.heap.size, 0, none⟩) (bs a).size (grownCap w (bs a).size 0 el), _, by simp only [execOp, ex, Sem.run_bind, hrun]; rfl, _, h1, ⟨h2.size, h2.os, h2.tape, h2.out, h2.pub, h2.own⟩, .inr ⟨w.heap.size, grownCap w (bs a).size 0 el, h3, by rw [hsz], by rw [hsz]; exact grownCap_ge _ _ _ _, by rw [hsz]; exact grownCap_le_maxLen _ _ _ _ hl⟩, ?_⟩
  intro z hz
  simp only [List.mem_singleton] at hz
  subst hz
  refine ⟨_, _, _, _, h3, alloc_new _ _, ?_, fun j hj => ?_⟩
  · simp only [bytesRow, Array.size_append, Array.size_map]
    have : (bs a).data.size = a.length := hsz
    omega
  · have hj' : j < (bs a).data.size := by have : (bs a).data.size = a.length := hsz; omega
    rw [bytesRow_at (bs a) _ j hj']
    rfl
theorem setCell_mark {w : World} {b off : Nat} {cs : Array Value} {Tb lo hi : Nat} (h : w.heap[b]? = some (.cells cs Tb (lo, hi))) (v : Value) : w.setCell ⟨b, off, none⟩ v = { w with heap := w.heap.setIfInBounds b (.cells (cs.setIfInBounds off v) Tb (lo, hi)) } := by
  unfold World.setCell
  congr 1
  apply Array.ext_getElem?
  intro i
  rw [Array.getElem?_modify]
  by_cases e : b = i
  · subst e
    obtain ⟨hlt, hv⟩ := Array.getElem?_eq_some_iff.1 h
    simp [hv, hlt]
  · simp [e, Array.getElem?_setIfInBounds_ne e]
theorem store_leM {w : World} {M : Tags} {tg b lo hi : Nat} {cs' : Array Value} {Tb : TypeId} (wf : Wf w M) (hb : M b = some tg) (w' : World) (hw : w' = { w with heap := w.heap.setIfInBounds b (.cells cs' Tb (lo, hi)) }) :
    Wf w' M ∧ Le (· ∈ [tg]) (· ∈ ([] : List Nat)) w M w' M ∧ w'.heap[b]? = some (.cells cs' Tb (lo, hi)) := by
  have hlt := wf.lt b tg hb
  subst hw
  refine ⟨⟨fun b' t h => by simpa using wf.lt b' t h, wf.inj, wf.amb.of fun b' hb' hm => ⟨hm, by simp [Array.getElem?_setIfInBounds_ne (show b ≠ b' from fun e => by rw [← e, hb] at hm; cases hm)]⟩⟩, ⟨by simp, rfl, rfl, rfl, fun b' hb' hm => ⟨hm, ?_⟩, fun b' t hm _ => ⟨hm, fun hs => ?_⟩⟩, by simp [hlt]⟩
  · have : b ≠ b' := fun e => by rw [← e, hb] at hm; cases hm
    simp [Array.getElem?_setIfInBounds_ne this]
  · have : b ≠ b' := fun e => hs (by rw [← e, hb] at hm; injection hm with hm; simp [hm])
    simp [Array.getElem?_setIfInBounds_ne this]
theorem r_store_bv {Tb i off : Nat} {z : UInt8} {n : Int} (hx : A.op fr x = .ptr tg off) (ho : off = i) (hc : A.tag tg = some (.bv Tb a)) (h1 : Tag1 tg) (hT : T.tab[ty']? = some ti) (hsz : ti.size = 1) (hy : A.op fr y = .int .u8 n) (hn : n = (z.toNat : Int)) (hi : i < a.length)
    (h : TOps P fr ops rest (A.after { d := none, S := [tg], sets := [(tg, .bv Tb (a.set i z))], rs := opR x ++ opR y, rt := [tg] }) fun A' l'' => K A' ((A, { d := none, S := [tg], sets := [(tg, .bv Tb (a.set i z))], rs := opR x ++ opR y, rt := [tg] }) :: l'')) :
    TOps P fr ops (⟨none, .store ty' x y, t, p, e, none⟩ :: rest) A K := by
  subst ho
  subst hn
  refine ⟨_, opT_unit rfl rfl rfl (by simp) (by simpa using h1.1) (by simp) fun ac w M wf hr ht => ?_, h⟩
  obtain ⟨hdx, hdy⟩ := op2 hr
  rw [hx] at hdx; rw [hy] at hdy
  obtain ⟨b, hb, ex⟩ := hdx
  have ey : ac.eval y = .int .u8 (z.toNat : Int) := hdy
  obtain ⟨b', cs, lo, hi', hb', hh, hlo, hcs⟩ := ht _ (tag_mem hc) (by simp)
  obtain ⟨u, rfl⟩ : ∃ u, tg = u + 1 := ⟨tg - 1, by have := h1.1; omega⟩
  have := wf.inj b b' u h1.2 hb hb'
  subst this
  have hcell : w.cell? ⟨b, off, none⟩ = some (.int .u8 (a[off].toNat : Int)) := by simp [World.cell?, hh, hcs off hi]
  have hfz : w.frozen? ⟨b, off, none⟩ = false := by simp [World.frozen?, hh]; omega
  obtain ⟨h1', h2', h3'⟩ := store_leM wf hb _ (setCell_mark hh (off := off) (ac.eval y))
  refine ⟨w.setCell ⟨b, off, none⟩ (ac.eval y), ?_, M, h1', h2', trivial, ?_⟩
  · have hst := run_store P w ⟨b, off, none⟩ (ac.eval y) .plain (by rw [ey]; rfl)
    rw [hcell] at hst
    simp only [hfz] at hst
    rw [ey] at hst ⊢
    simp [execOp, Instr.storeAt, Instr.sureAddr, ex, ey, storeVar, Value.cells, run_sizeOf' hT, hsz, storeCells, hst, Addr.add]
  · intro z' hz'
    simp only [List.mem_singleton] at hz'
    subst hz'
    refine ⟨b, _, lo, hi', hb, h3', by rw [List.length_set]; exact hlo, fun j hj => ?_⟩
    rw [List.length_set] at hj
    have hsz2 : off < cs.size := (Array.getElem?_eq_some_iff.1 (hcs off hi)).1
    by_cases e : off = j
    · subst e
      rw [Array.getElem?_setIfInBounds_self_of_lt hsz2, ey]; simp
    · rw [Array.getElem?_setIfInBounds_ne e, hcs j hj, List.getElem_set_ne e]
theorem r_convBS {src n : Nat} (hx : A.op fr x = .vs tg n) (hc : A.tag tg = some (.bv el a)) (h1 : Tag1 tg) (hn : n = a.length) (hS : T.tab[src]? = some ts) (hks : ts.k = .slice el) (hT : T.tab[ty']? = some ti) (hk : ti.k = .string) (hu : P.underlying el = some (.int .u8))
    (h : TOps P fr ops rest (A.set d (.str (bs a))) fun A' l' => K A' ((A, { d := some d, ty := .str (bs a), rs := opR x, rt := [tg] }) :: l')) : TOps P fr ops (⟨some d, .convert src ty' x, t, p, e, none⟩ :: rest) A K :=
  tops_pure (opT_pure rfl rfl fun ac w M wf hr ht => by
    subst hn
    have hdx := op_den (x := x) (fun _ h => h) hr
    rw [hx] at hdx
    obtain ⟨b', cs, lo, hi', hb', hh, hlo, hcs⟩ := ht _ (tag_mem hc) (by simp)
    obtain ⟨_, D, _, hD, hkd, _⟩ := tab_info hS
    rw [hks] at hkd
    cases D <;> simp only [TK.of, reduceCtorEq, TK.slice.injEq] at hkd
    subst hkd
    rcases hdx with ⟨h0, ex⟩ | ⟨b, c, hb, ex, _, _⟩
    · have ha : a = [] := List.length_eq_zero_iff.1 h0
      subst ha
      refine ⟨.string (bs []), ?_, rfl⟩
      simp only [execOp, ex, Sem.run_bind, run_convert_bytes_string w src ty' _ none 0 0 hD hu (tab_string hT hk)]
      rfl
    · obtain ⟨u, rfl⟩ : ∃ u, tg = u + 1 := ⟨tg - 1, by have := h1.1; omega⟩
      have := wf.inj b b' u h1.2 hb hb'
      subst this
      have hrun := run_convert_bytes_back (P := P) w src ty' _ ⟨b, 0, none⟩ c a hD hu (tab_string hT hk) (fun j hj => by rw [Addr.add_lit]; simp [World.cell?, hh, hcs j hj])
      exact ⟨.string (bs a), by simp only [execOp, ex, Sem.run_bind, hrun]; rfl, rfl⟩) h
omit T in
theorem r_lenMp {mt kt et : TypeId} {κ β : Type} [DecidableEq κ] {enc : κ → Value} {V : VT β} {kvs : List (κ × β)} (hx : A.op fr x = .mp tg) (hc : A.tag tg = some (.mp enc V kvs)) (h1 : Tag1 tg) (hm : mapOf P mt = some (kt, et))
    (h : TOps P fr ops rest (A.set d (.int .i64 kvs.length)) fun A' l' => K A' ((A, { d := some d, ty := .int .i64 kvs.length, rs := opR x, rt := [tg] }) :: l')) :
    TOps P fr ops (⟨some d, .call ⟨.builtin .len, #[x], #[mt]⟩, t, p, e, none⟩ :: rest) A K :=
  tops_pure (opT_pure rfl rfl fun a w M wf hrd htg => by
    obtain ⟨b, ex, _, es, clock, h3, h4, _⟩ := mp_at hx hc h1 wf (fun _ h => h) hrd htg
    have hl : es.size = kvs.length := by have := congrArg List.length h4; simpa using this
    exact ⟨.int .i64 kvs.length, by simp [execOp, resolve, invoke, builtin, ex, Builtin.len_, run_underlying (mapOf_und hm), getObj, Sem.run, h3, goInt, hl], rfl⟩) h
end
end Go.T

namespace Go.Proofs.YtjjndkenddigiaaGreatDoor
open Go Go.T
def tearB (text : Byt) (l : List Int) : Byt := (List.range text.length).map fun k => if ((k : Nat) : Int) ∈ l then 63 else nth text k
def offL (text : Byt) (l : List Int) : Bool := l.any fun i => offB i 0 ((text.length : Int) - 1)
def tearV (text : Byt) (l : List Int) : Byt × Int := if (text.length : Int) > 65536 then ([], 10) else if offL text l = true then ([], 1) else if l.Nodup then (tearB text l, 0) else ([], 5)
theorem tearB_len (text : Byt) (l : List Int) : (tearB text l).length = text.length := by simp [tearB]
theorem nth_getElem {α : Type} [Inhabited α] {l : List α} {k : Nat} (h : k < l.length) : l[k] = nth l k := by simp [nth, h]
theorem tearB_at {text : Byt} {l : List Int} {k : Nat} (h : k < text.length) : nth (tearB text l) k = if ((k : Nat) : Int) ∈ l then 63 else nth text k := by
  rw [← nth_getElem (by rw [tearB_len]; exact h)]; simp [tearB]
def DupK (l : List Int) (k : Nat) : Prop := ∀ j, j < k → ∀ m, m < j → nth l j ≠ nth l m
theorem dup_yes {l : List Int} {j m : Nat} (hj : j < l.length) (hm : m < j) (h : nth l j = nth l m) : ¬ l.Nodup := by
  intro hn
  have hm' : m < l.length := by omega
  rw [← nth_getElem hj, ← nth_getElem hm'] at h
  exact List.pairwise_iff_getElem.1 hn m j hm' hj hm h.symm
theorem dup_no {l : List Int} (h : DupK l l.length) : l.Nodup := by
  refine List.pairwise_iff_getElem.2 fun i j hi hj hij he => ?_
  rw [nth_getElem, nth_getElem] at he
  exact h j hj i hij he.symm
theorem te1 {text : Byt} {l : List Int} (h : 65536 < (text.length : Int)) : tearV text l = ([], 10) := if_pos h
theorem te2 {text : Byt} {l : List Int} (h : ¬ 65536 < (text.length : Int)) (h2 : offL text l = true) : tearV text l = ([], 1) := by unfold tearV; rw [if_neg h, if_pos h2]
theorem te3 {text : Byt} {l : List Int} (h : ¬ 65536 < (text.length : Int)) (h2 : offL text l = false) (h3 : ¬ l.Nodup) : tearV text l = ([], 5) := by unfold tearV; rw [if_neg h, if_neg (by rw [h2]; decide), if_neg h3]
theorem te4 {text : Byt} {l : List Int} (h : ¬ 65536 < (text.length : Int)) (h2 : offL text l = false) (h3 : l.Nodup) : tearV text l = (tearB text l, 0) := by unfold tearV; rw [if_neg h, if_neg (by rw [h2]; decide), if_pos h3]
end Go.Proofs.YtjjndkenddigiaaGreatDoor

namespace Go.Proofs.YtjjndkenddigiaaGreatDoor
open Go Go.T
def metK (l : List Int) (k : Nat) : List (Int × Bool) := (l.take k).foldl (fun m i => mput m i true) []
theorem metK_succ {l : List Int} {k : Nat} (h : k < l.length) : metK l (k + 1) = mput (metK l k) (nth l k) true := by unfold metK; rw [take_nth h, List.foldl_append]; rfl
theorem mput_len {m : List (Int × Bool)} {i : Int} : (mput m i true).length = m.length + (if mget m i = none then 1 else 0) := by
  induction m with
  | nil => rfl
  | cons x m ih =>
    simp only [mput, mget]
    split
    · simp
    · simp only [List.length_cons, ih]; split <;> omega
theorem met_get {l : List Int} : ∀ {k : Nat}, k ≤ l.length → ∀ i, mget (metK l k) i = if i ∈ l.take k then some true else none
  | 0, _, i => by simp [metK, mget]
  | k + 1, h, i => by
    rw [metK_succ (by omega), mget_mput, met_get (by omega), take_nth (by omega)]
    by_cases e : nth l k = i
    · subst e; simp
    · rw [if_neg e]
      have : i ≠ nth l k := fun h => e h.symm
      simp [this]
theorem met_getD {l : List Int} {k : Nat} (h : k ≤ l.length) (i : Int) : (mget (metK l k) i).getD false = decide (i ∈ l.take k) := by
  rw [met_get h]; split <;> simp [*]
theorem mem_take_nth {l : List Int} {k : Nat} (h : k ≤ l.length) {i : Int} : i ∈ l.take k ↔ ∃ m, m < k ∧ nth l m = i := by
  constructor
  · intro hm
    obtain ⟨m, hm2, rfl⟩ := List.getElem_of_mem hm
    rw [List.length_take] at hm2
    exact ⟨m, by omega, by rw [List.getElem_take, nth_getElem]⟩
  · rintro ⟨m, hm, rfl⟩
    rw [← nth_getElem (show m < l.length by omega)]
    exact List.mem_take_iff_getElem.2 ⟨m, by omega, rfl⟩
theorem met_len {l : List Int} : ∀ {k : Nat}, k ≤ l.length → (metK l k).length ≤ k ∧ ((metK l k).length = k ↔ DupK l k)
  | 0, _ => ⟨Nat.le_refl _, fun _ j hj => absurd hj (Nat.not_lt_zero _), fun _ => rfl⟩
  | k + 1, h => by
    obtain ⟨h1, h2⟩ := met_len (l := l) (k := k) (by omega)
    rw [metK_succ (by omega), mput_len, met_get (by omega)]
    by_cases e : nth l k ∈ l.take k
    · rw [if_pos e]
      obtain ⟨m, hm, he⟩ := (mem_take_nth (by omega)).1 e
      refine ⟨by simp; omega, fun hc => by simp at hc; omega, fun hd => absurd he.symm (hd k (by omega) m hm)⟩
    · rw [if_neg e, if_pos rfl]
      refine ⟨by omega, fun hc j hj m hm => ?_, fun hd => ?_⟩
      · have hdk := h2.1 (by omega)
        by_cases ej : j = k
        · subst ej; exact fun he => e ((mem_take_nth (by omega)).2 ⟨m, hm, he.symm⟩)
        · exact hdk j (by omega) m hm
      · have := h2.2 fun j hj m hm => hd j (by omega) m hm
        omega
theorem met_dup {l : List Int} {k : Nat} (hk : k ≤ l.length) (h0 : ¬ (k : Int) < l.length) (h : ((metK l k).length : Int) < l.length) : ¬ l.Nodup := by
  have e : k = l.length := by omega
  subst e
  intro hn
  have : DupK l l.length := fun j hj m hm he => dup_yes hj hm he hn
  have := (met_len (Nat.le_refl _)).2.2 this
  omega
theorem met_nod {l : List Int} {k : Nat} (hk : k ≤ l.length) (h0 : ¬ (k : Int) < l.length) (h : ¬ ((metK l k).length : Int) < l.length) : l.Nodup := by
  have e : k = l.length := by omega
  subst e
  obtain ⟨h1, h2⟩ := met_len (l := l) (Nat.le_refl _)
  exact dup_no (h2.1 (by omega))
theorem all_off' {text : Byt} {l : List Int} : (l.all fun i => inB i 0 ((text.length : Int) - 1)) = !offL text l := by
  unfold offL
  induction l with
  | nil => rfl
  | cons x l ih => rw [List.all_cons, List.any_cons, Bool.not_or, ih, ← inB_off, Bool.not_not]
theorem metK_0 (l : List Int) : [] = metK l 0 := rfl
theorem met_in {l : List Int} {k : Nat} (hk : k ≤ l.length) (h0 : ¬ (k : Int) < l.length) {i : Int} (h : (mget (metK l k) i).getD false = true) : i ∈ l := by
  rw [met_getD hk, List.take_of_length_le (by omega)] at h; simpa using h
theorem met_out {l : List Int} {k : Nat} (hk : k ≤ l.length) (h0 : ¬ (k : Int) < l.length) {i : Int} (h : (mget (metK l k) i).getD false = false) : ¬ i ∈ l := by
  rw [met_getD hk, List.take_of_length_le (by omega)] at h; simpa using h
theorem off_no {text : Byt} {l : List Int} (h : (!l.all fun i => inB i 0 ((text.length : Int) - 1)) = false) : offL text l = false := by
  rw [all_off', Bool.not_not] at h; exact h
theorem off_yes {text : Byt} {l : List Int} (h : (!l.all fun i => inB i 0 ((text.length : Int) - 1)) = true) : offL text l = true := by
  rw [all_off', Bool.not_not] at h; exact h
def tearP (text : Byt) (l : List Int) (j : Nat) : Byt := (tearB text l).take j ++ text.drop j
theorem tp_0 (text : Byt) (l : List Int) : text = tearP text l 0 := by simp [tearP]
theorem tp_len {text : Byt} {l : List Int} {j : Nat} (h : j ≤ text.length) : (tearP text l j).length = text.length := by simp [tearP, tearB_len]; omega
theorem tp_end {text : Byt} {l : List Int} {j : Nat} (h : text.length ≤ j) : tearP text l j = tearB text l := by
  unfold tearP; rw [List.take_of_length_le (by rw [tearB_len]; exact h), List.drop_of_length_le h, List.append_nil]
theorem tp_yes {text : Byt} {l : List Int} {j : Nat} (h : j < text.length) (hm : ((j : Nat) : Int) ∈ l) : (tearP text l j).set j 63 = tearP text l (j + 1) := by
  unfold tearP
  have hl : ((tearB text l).take j).length = j := by rw [List.length_take, tearB_len]; omega
  rw [List.set_append_right _ _ (by omega), hl, Nat.sub_self, List.drop_eq_getElem_cons h, List.set_cons_zero, take_nth (by rw [tearB_len]; exact h), tearB_at h, if_pos hm, List.append_assoc]; rfl
theorem tp_no {text : Byt} {l : List Int} {j : Nat} (h : j < text.length) (hm : ¬ ((j : Nat) : Int) ∈ l) : tearP text l j = tearP text l (j + 1) := by
  unfold tearP
  rw [List.drop_eq_getElem_cons h, take_nth (by rw [tearB_len]; exact h), tearB_at h, if_neg hm, List.append_assoc, nth_getElem h]; rfl
end Go.Proofs.YtjjndkenddigiaaGreatDoor

namespace Go.Proofs.YtjjndkenddigiaaGreatDoor
open Go Go.T
set_option maxHeartbeats 1000000
def KI : KeyK Tryz.prog 3 Int := intKey Tryz.prog 3 .i64 Tryz.underlying3
theorem keyI (n : Int) : KeyAt (Ty.int .i64 n) (KI.enc n) := key_int
theorem mapT169 : mapOf Tryz.prog 169 = some (3, 4) := by kernel_rfl
theorem zero4 : zeroOf Tryz.prog 4 = some (.bool false) := by kernel_rfl
theorem vb_zero : ∀ w M, (VBool.ty false).den w M (.bool false) := fun _ _ => rfl
attribute [local irreducible] tearB metK tearP
attribute [local irreducible] dInt dBool dSl dPp dPtr dAgg dTup dClo dAny dEx dStr dGd dCells dVec dVs dRow dOp nth Tri Into TOps Ctr bodyPost Exit.then Exit.inBlock Code.wp Code.wpIn dWhen dPa dArr dMp dMap CtrG keepPost iterPost bodyPostM roundQ
set_option maxRecDepth 100000 in
theorem c_Tear1 (text : Byt) (hl : text.length ≤ 1000000) (n : Int) : Ctr Tryz.prog 122 [Ty.int .i64 n, Ty.pp [Ty.str (bs text)]] (Ty.bool (inB n 0 ((text.length : Int) - 1))) := by
  refine fn_intro Tryz.func122 rfl (by decide) Tryz.ntmps122 (by exact Nat.le_of_ble_eq_true rfl) fun w0 M0 => ?_
  refine t_seq ?_
  refine t_region ?_
  refine asB rfl ?_
  refine r_nil ?_
  refine i_then ?_
  refine t_seq ?_
  refine t_region ?_
  refine mvI rfl ?_
  refine r_load_pp rfl rfl rfl rfl ?_
  refine r_lenS rfl rfl rfl ?_
  refine r_sub rfl rfl (by omega) (by omega) ?_
  refine r_call (c_in _ _ _) rfl rfl rfl rfl rfl ?_
  refine asB rfl ?_
  refine r_nil ?_
  refine i_then ?_
  refine t_ret ?_
  refine i_rp1 rfl rfl ?_
  all_goals exact ret_refl rfl rfl
set_option maxRecDepth 100000 in
theorem c_Tear (text : Byt) (l : List Int) (hl : l.length ≤ 1000000) : Ctr Tryz.prog 64 [Ty.str (bs text), Ty.sl I64 l] (Ty.tup [Ty.str (bs (tearV text l).1), Ty.int .i64 (tearV text l).2]) := by
  refine fn_intro Tryz.func64 rfl (by decide) Tryz.ntmps64 (by exact Nat.le_of_ble_eq_true rfl) fun w0 M0 => ?_
  refine t_seq ?_
  refine t_region ?_
  refine r_box_one (ty := Ty.str (bs text)) rfl rfl ?_
  refine asS' rfl ?_
  refine asI rfl ?_
  refine r_nil ?_
  refine i_then ?_
  refine t_seq ?_
  refine t_seq ?_
  refine t_region ?_
  refine r_load_pp rfl rfl rfl rfl ?_
  refine r_lenS rfl rfl rfl ?_
  refine r_bin rfl rfl rfl ?_
  refine r_nil ?_
  refine i_then ?_
  refine t_cond_dec rfl (fun hc1 => ?_) (fun hc1 => ?_)
  ·
    refine t_seq ?_
    refine t_region ?_
    refine asS' rfl ?_
    refine asI rfl ?_
    refine r_nil ?_
    refine i_then ?_
    refine t_ret ?_
    refine i_then_ret ?_
    refine i_rp2 rfl rfl rfl ?_ ?_
    all_goals skip
    all_goals (rw [te1 hc1]; exact ret_refl rfl rfl)
  ·
    refine t_skip ?_
    refine i_then ?_
    refine t_seq ?_
    refine t_seq ?_
    have htl : text.length ≤ 1000000 := by omega
    refine t_region ?_
    refine mvS rfl ?_
    refine r_makeFunc rfl ?_
    refine r_call (c_every_int l (Ty.clo _ [Ty.pp [Ty.str (bs text)]]) rfl (fun n => inB n 0 ((text.length : Int) - 1)) rfl rfl fun x _ => cal_clo (c_Tear1 text htl x) rfl rfl rfl rfl rfl rfl) rfl rfl rfl rfl rfl ?_
    refine r_not rfl ?_
    refine r_nil ?_
    refine i_then ?_
    refine t_cond rfl (fun hc2 => ?_) (fun hc2 => ?_)
    ·
      refine t_seq ?_
      refine t_region ?_
      refine asS' rfl ?_
      refine asI rfl ?_
      refine r_nil ?_
      refine i_then ?_
      refine t_ret ?_
      refine i_then_ret ?_
      refine i_rp2 rfl rfl rfl ?_ ?_
      all_goals skip
      all_goals (rw [te2 hc1 (off_yes hc2)]; exact ret_refl rfl rfl)
    ·
      refine t_skip ?_
      refine i_then ?_
      refine t_seq ?_
      refine t_region ?_
      refine r_makeMap (Value.int .i64) VBool mapT169 rfl ?_
      refine asM rfl ?_
      refine r_nil ?_
      refine i_then ?_
      refine t_seq ?_
      refine t_seq ?_
      refine t_region ?_
      refine mvS rfl ?_
      refine r_len rfl rfl rfl ?_
      refine mvI rfl ?_
      refine r_nil ?_
      refine i_then ?_
      refine t_block ?_
      refine t_loop (fun (k : {k : Nat // k ≤ l.length}) => live [(1, Ty.sl I64 l), (2, Ty.pp [Ty.str (bs text)]), (6, Ty.mp 19), (19, Ty.sl I64 l), (20, Ty.int .i64 l.length), (21, Ty.int .i64 (k.1 : Nat))] [(19, Cont.mp (Value.int .i64) VBool (metK l k.1))]) (fun k => l.length - k.1) (⟨0, Nat.zero_le _⟩) ?_ fun k => ?_
      · (refine Ent.mk' ?_ ?_ <;> (repeat' (first | exact allSub_zero | exact allTags_nil | refine allSub_succ' ?_ (Ty.sub_any _) | refine allSub_succ' ?_ (Ty.sub_refl _) | refine allTags_cons rfl ?_ ?_)))
        all_goals exact Cont.sub_mp (metK_0 l)
      ·
        refine t_seq ?_
        refine t_region ?_
        refine r_bin rfl rfl rfl ?_
        refine r_nil ?_
        refine i_then ?_
        refine t_seq ?_
        refine t_cond_dec rfl (fun hc3 => ?_) (fun hc3 => ?_)
        ·
          refine t_skip ?_
          refine i_then ?_
          refine t_seq ?_
          refine t_block ?_
          refine t_seq ?_
          have hk : k.1 < l.length := by omega
          refine t_region ?_
          refine r_index_slN rfl rfl rfl rfl rfl rfl (by omega) ?_
          refine r_load_pp rfl rfl rfl rfl ?_
          refine asI rfl ?_
          refine r_nil ?_
          refine i_then ?_
          refine t_region ?_
          refine mvM rfl ?_
          refine mvI rfl ?_
          refine r_mapUpdate KI rfl rfl (by decide) rfl (keyI _) rfl rfl mapT169 ?_
          refine r_nil ?_
          refine i_block ?_
          refine i_then ?_
          refine t_region ?_
          refine r_add rfl rfl (by omega) (by omega) ?_
          refine mvI rfl ?_
          refine r_nil ?_
          refine i_round (⟨k.1 + 1, by omega⟩) ?_ (by show l.length - (k.1 + 1) < l.length - k.1; omega)
          (refine Ent.mk' ?_ ?_ <;> (repeat' (first | exact allSub_zero | exact allTags_nil | refine allSub_succ' ?_ (Ty.sub_any _) | refine allSub_succ' ?_ (Ty.sub_refl _) | refine allTags_cons rfl ?_ ?_)))
          all_goals skip
          all_goals exact Cont.sub_mp (metK_succ hk).symm
        ·
          refine t_exit ?_
          refine i_then_exit ?_
          refine i_then_exit ?_
          refine i_block_exit rfl ?_
          refine i_then ?_
          refine t_seq ?_
          refine t_seq ?_
          refine t_region ?_
          refine mvM rfl ?_
          refine r_lenMp rfl rfl (by decide) mapT169 ?_
          refine mvS rfl ?_
          refine r_len rfl rfl rfl ?_
          refine r_bin rfl rfl rfl ?_
          refine r_nil ?_
          refine i_then ?_
          refine t_cond_dec rfl (fun hc4 => ?_) (fun hc4 => ?_)
          ·
            refine t_seq ?_
            refine t_region ?_
            refine asS' rfl ?_
            refine asI rfl ?_
            refine r_nil ?_
            refine i_then ?_
            refine t_ret ?_
            refine i_then_ret ?_
            refine i_rp2 rfl rfl rfl ?_ ?_
            all_goals skip
            all_goals (rw [te3 hc1 (off_no hc2) (met_dup k.2 hc3 hc4)]; exact ret_refl rfl rfl)
          ·
            refine t_skip ?_
            refine i_then ?_
            refine t_seq ?_
            have hml : maxLen = 9223372036854775807 := rfl
            refine t_region ?_
            refine r_load_pp rfl rfl rfl rfl ?_
            refine r_convSB rfl rfl rfl rfl rfl Tryz.underlying5 (by omega) rfl ?_
            refine r_assign rfl ?_
            refine r_nil ?_
            refine i_then ?_
            refine t_seq ?_
            refine t_seq ?_
            refine t_region ?_
            refine r_move rfl ?_
            refine r_len_vs rfl rfl rfl ?_
            refine mvI rfl ?_
            refine r_nil ?_
            refine i_then ?_
            refine t_block ?_
            refine t_loop (fun (j : {j : Nat // j ≤ text.length}) => live [(6, Ty.mp 19), (9, Ty.vs 35 text.length), (35, Ty.vs 35 text.length), (36, Ty.int .i64 text.length), (37, Ty.int .i64 (j.1 : Nat))] [(19, Cont.mp (Value.int .i64) VBool (metK l k.1)), (35, Cont.bv 5 (tearP text l j.1))]) (fun j => text.length - j.1) (⟨0, Nat.zero_le _⟩) ?_ fun j => ?_
            · (refine Ent.mk' ?_ ?_ <;> (repeat' (first | exact allSub_zero | exact allTags_nil | refine allSub_succ' ?_ (Ty.sub_any _) | refine allSub_succ' ?_ (Ty.sub_refl _) | refine allTags_cons rfl (Cont.sub_refl _) ?_ | refine allTags_cons rfl ?_ ?_)))
              all_goals exact Cont.sub_bv (tp_0 text l)
            ·
              refine t_seq ?_
              refine t_region ?_
              refine r_bin rfl rfl rfl ?_
              refine r_nil ?_
              refine i_then ?_
              refine t_seq ?_
              refine t_cond_dec rfl (fun hc5 => ?_) (fun hc5 => ?_)
              ·
                refine t_skip ?_
                refine i_then ?_
                refine t_seq ?_
                refine t_block ?_
                refine t_seq ?_
                have hj : j.1 < text.length := by omega
                refine t_region ?_
                refine mvI rfl ?_
                refine asI rfl ?_
                refine r_nil ?_
                refine i_then ?_
                refine t_seq ?_
                refine t_region ?_
                refine mvM rfl ?_
                refine mvI rfl ?_
                refine r_lookup KI (z0 := false) rfl rfl (by decide) rfl (keyI _) mapT169 zero4 vb_zero ?_
                refine r_nil ?_
                refine i_then ?_
                refine t_cond rfl (fun hc6 => ?_) (fun hc6 => ?_)
                ·
                  refine t_region ?_
                  refine r_move rfl ?_
                  refine mvI rfl ?_
                  refine r_index_vs rfl rfl rfl rfl rfl (by omega) ?_
                  refine r_store_bv (i := j.1) (z := 63) rfl (Nat.mul_one _) rfl (by decide) rfl rfl rfl rfl (by rw [tp_len j.2]; exact hj) ?_
                  refine r_nil ?_
                  refine i_block ?_
                  refine i_then ?_
                  refine t_region ?_
                  refine r_add rfl rfl (by omega) (by omega) ?_
                  refine mvI rfl ?_
                  refine r_nil ?_
                  refine i_round (⟨j.1 + 1, by omega⟩) ?_ (by show text.length - (j.1 + 1) < text.length - j.1; omega)
                  (refine Ent.mk' ?_ ?_ <;> (repeat' (first | exact allSub_zero | exact allTags_nil | refine allSub_succ' ?_ (Ty.sub_any _) | refine allSub_succ' ?_ (Ty.sub_refl _) | refine allTags_cons rfl (Cont.sub_refl _) ?_ | refine allTags_cons rfl ?_ ?_)))
                  all_goals skip
                  all_goals exact Cont.sub_bv (tp_yes hj (met_in k.2 hc3 hc6))
                ·
                  refine t_skip ?_
                  refine i_block ?_
                  refine i_then ?_
                  refine t_region ?_
                  refine r_add rfl rfl (by omega) (by omega) ?_
                  refine mvI rfl ?_
                  refine r_nil ?_
                  refine i_round (⟨j.1 + 1, by omega⟩) ?_ (by show text.length - (j.1 + 1) < text.length - j.1; omega)
                  (refine Ent.mk' ?_ ?_ <;> (repeat' (first | exact allSub_zero | exact allTags_nil | refine allSub_succ' ?_ (Ty.sub_any _) | refine allSub_succ' ?_ (Ty.sub_refl _) | refine allTags_cons rfl (Cont.sub_refl _) ?_ | refine allTags_cons rfl ?_ ?_)))
                  all_goals skip
                  all_goals exact Cont.sub_bv (tp_no hj (met_out k.2 hc3 hc6))
              ·
                refine t_exit ?_
                refine i_then_exit ?_
                refine i_then_exit ?_
                refine i_block_exit rfl ?_
                refine i_then ?_
                refine t_seq ?_
                refine t_region ?_
                refine r_move rfl ?_
                refine r_convBS rfl rfl (by decide) (tp_len j.2).symm rfl rfl rfl rfl Tryz.underlying5 ?_
                refine asS' rfl ?_
                refine asI rfl ?_
                refine r_nil ?_
                refine i_then ?_
                refine t_ret ?_
                refine i_rp2 rfl rfl rfl ?_ ?_
                all_goals skip
                all_goals (rw [te4 hc1 (off_no hc2) (met_nod k.2 hc3 hc4), tp_end (by omega)]; exact ret_refl rfl rfl)
end Go.Proofs.YtjjndkenddigiaaGreatDoor

namespace Go.Proofs.YtjjndkenddigiaaGreatDoor
open Go Go.T
set_option maxHeartbeats 1000000
attribute [local irreducible] dInt dBool dSl dPp dPtr dAgg dTup dClo dAny dEx dStr dGd dCells dVec dVs dRow dOp nth Tri Into TOps Ctr bodyPost Exit.then Exit.inBlock Code.wp Code.wpIn dWhen dPa dArr dMp dMap CtrG keepPost iterPost bodyPostM roundQ
end Go.Proofs.YtjjndkenddigiaaGreatDoor

namespace Go.Proofs.YtjjndkenddigiaaGreatDoor
open Go Go.T
def byF (n i : Nat) : UInt8 := if n / 10 ^ i = 0 ∧ 0 < i then 32 else UInt8.ofNat (48 + n / 10 ^ i % 10)
def fldR (n w : Nat) : Byt := ((List.range w).map (byF n)).reverse
theorem fldR_succ (n w : Nat) : fldR n (w + 1) = byF n w :: fldR n w := by unfold fldR; rw [List.range_succ, List.map_append, List.reverse_append]; rfl
theorem fldR_len (n w : Nat) : (fldR n w).length = w := by simp [fldR]
theorem byF_shift {n i : Nat} (h : 10 ≤ n) : byF n (i + 1) = byF (n / 10) i := by
  have e : n / 10 ^ (i + 1) = n / 10 / 10 ^ i := by rw [Nat.pow_succ, Nat.mul_comm, Nat.div_div_eq_div_mul]
  unfold byF; rw [e]
  cases i with
  | zero => have : n / 10 ≠ 0 := by omega
            simp [this]
  | succ i => simp
theorem fldR_shift {n : Nat} (h : 10 ≤ n) : ∀ w, fldR n (w + 1) = fldR (n / 10) w ++ [UInt8.ofNat (48 + n % 10)]
  | 0 => by
    have : byF n 0 = UInt8.ofNat (48 + n % 10) := by unfold byF; rw [if_neg (by omega)]; simp
    rw [fldR_succ, this]; rfl
  | w + 1 => by rw [fldR_succ, fldR_shift h w, fldR_succ (n / 10) w, byF_shift h]; rfl
theorem fldR_small {n : Nat} (h : n < 10) : ∀ w, fldR n (w + 1) = List.replicate w 32 ++ [UInt8.ofNat (48 + n)]
  | 0 => by
    have : byF n 0 = UInt8.ofNat (48 + n) := by unfold byF; rw [if_neg (by omega)]; simp [Nat.mod_eq_of_lt h]
    rw [fldR_succ, this]; rfl
  | w + 1 => by
    have hp : 10 ≤ 10 ^ (w + 1) := by rw [Nat.pow_succ]; have := Nat.pow_pos (n := w) (show 0 < 10 by decide); omega
    have : byF n (w + 1) = 32 := by unfold byF; rw [if_pos ⟨Nat.div_eq_of_lt (by omega), by omega⟩]
    rw [fldR_succ, this, fldR_small h w]; rfl
theorem fldR_pad : ∀ (k n w : Nat), n < 10 ^ (k + 1) → 1 ≤ w → n < 10 ^ w → fldR n w = padW w (digF k n)
  | 0, n, w + 1, h, _, _ => by
    have h : n < 10 := by simpa using h
    rw [fldR_small h w]; simp [padW, digF]
  | k + 1, n, w + 1, h, _, h2 => by
    by_cases hn : n < 10
    · rw [fldR_small hn w, digF, if_pos hn]; simp [padW]
    · rw [fldR_shift (by omega) w, digF, if_neg hn]
      have hw : 1 ≤ w := by
        rcases Nat.eq_zero_or_pos w with e | e
        · subst e; simp at h2; omega
        · exact e
      rw [fldR_pad k (n / 10) w (by rw [Nat.pow_succ] at h; omega) hw (by rw [Nat.pow_succ] at h2; omega)]
      unfold padW
      rw [List.length_append, List.length_singleton, Nat.add_sub_add_right, List.append_assoc]
theorem fld_ref {n w : Int} (h0 : 0 ≤ n) (hw : 1 ≤ w) (hw2 : w ≤ 20) (h : n < ten w) : fldR n.toNat w.toNat = fldN n w := by
  unfold ten at h
  have : 10 ^ w.toNat ≤ 10 ^ 26 := Nat.pow_le_pow_right (by omega) (by omega)
  exact fldR_pad 25 n.toNat w.toNat (by show n.toNat < 10 ^ 26; omega) (by omega) (by omega)
end Go.Proofs.YtjjndkenddigiaaGreatDoor

namespace Go.Proofs.YtjjndkenddigiaaGreatDoor
open Go Go.T
set_option maxHeartbeats 1000000
def digS : Byt := [48, 49, 50, 51, 52, 53, 54, 55, 56, 57]
theorem dig_cut {m : Nat} : (digS.take (m % 10 + 1)).drop (m % 10) = [UInt8.ofNat (48 + m % 10)] := by
  have h : ∀ k : Fin 10, (digS.take (k.1 + 1)).drop k.1 = [UInt8.ofNat (48 + k.1)] := by decide
  exact h ⟨m % 10, Nat.mod_lt _ (by decide)⟩
theorem fr_1 {n i : Nat} (h : (decide (((n / 10 ^ i : Nat) : Int) = 0) && decide ((i : Int) > 0)) = true) : [32] ++ fldR n i = fldR n (i + 1) := by
  simp only [Bool.and_eq_true, decide_eq_true_eq] at h
  rw [fldR_succ]; unfold byF; rw [if_pos ⟨by omega, by omega⟩]; rfl
theorem fr_2 {n i : Nat} (h : (decide (((n / 10 ^ i : Nat) : Int) = 0) && decide ((i : Int) > 0)) = false) : (digS.take (n / 10 ^ i % 10 + 1)).drop (n / 10 ^ i % 10) ++ fldR n i = fldR n (i + 1) := by
  rw [dig_cut, fldR_succ]; unfold byF
  rw [if_neg]
  · rfl
  · intro hc
    have h1 : ((n / 10 ^ i : Nat) : Int) = 0 := by omega
    have h2 : (i : Int) > 0 := by omega
    simp [h1, h2] at h
    omega
theorem quo_eq (n i : Nat) : n / 10 ^ i / 10 = n / 10 ^ (i + 1) := by rw [Nat.div_div_eq_div_mul, Nat.pow_succ]
theorem quo_0 {n i : Nat} (h : (decide (((n / 10 ^ i : Nat) : Int) = 0) && decide ((i : Int) > 0)) = true) : ((n / 10 ^ i : Nat) : Int) = ((n / 10 ^ (i + 1) : Nat) : Int) := by
  simp only [Bool.and_eq_true, decide_eq_true_eq] at h
  rw [← quo_eq]
  have : n / 10 ^ i = 0 := by omega
  rw [this]
theorem fr_0 (n : Nat) : ([] : Byt) = fldR n 0 := rfl
theorem quo_w {n i : Nat} (h : n ≤ 1000000000) : IntKind.i64.wrap (Int.tdiv ((n / 10 ^ i : Nat) : Int) 10) = ((n / 10 ^ (i + 1) : Nat) : Int) := by
  have h2 : n / 10 ^ i / 10 ≤ n := Nat.le_trans (Nat.div_le_self _ _) (Nat.div_le_self _ _)
  rw [show Int.tdiv ((n / 10 ^ i : Nat) : Int) 10 = ((n / 10 ^ i / 10 : Nat) : Int) from rfl, IntWalk.i64_in ((n / 10 ^ i / 10 : Nat) : Int) (by generalize n / 10 ^ i / 10 = q at *; omega), quo_eq]
theorem div_le (n i : Nat) : n / 10 ^ i ≤ n := Nat.div_le_self _ _
attribute [local irreducible] fldR byF
attribute [local irreducible] dInt dBool dSl dPp dPtr dAgg dTup dClo dAny dEx dStr dGd dCells dVec dVs dRow dOp nth Tri Into TOps Ctr bodyPost Exit.then Exit.inBlock Code.wp Code.wpIn dWhen dPa dArr dMp dMap CtrG keepPost iterPost bodyPostM roundQ
set_option maxRecDepth 100000 in
theorem c_Field (n : Nat) (w : Int) (hn : n ≤ 1000000000) (h0 : 0 ≤ w) (hw : w ≤ 100) : Ctr Tryz.prog 123 [Ty.int .i64 (n : Nat), Ty.int .i64 w] (Ty.str (bs (fldR n w.toNat))) := by
  refine fn_intro Tryz.func123 rfl (by decide) Tryz.ntmps123 (by exact Nat.le_of_ble_eq_true rfl) fun w0 M0 => ?_
  refine t_seq ?_
  refine t_region ?_
  refine asS' rfl ?_
  refine r_nil ?_
  refine i_then ?_
  refine t_seq ?_
  refine t_region ?_
  refine asS' rfl ?_
  refine r_nil ?_
  refine i_then ?_
  refine t_seq ?_
  refine t_seq ?_
  refine t_region ?_
  refine asI rfl ?_
  refine r_nil ?_
  refine i_then ?_
  refine t_block ?_
  refine t_loop (fun (i : {i : Nat // (i : Int) ≤ w}) => live [(0, Ty.int .i64 ((n / 10 ^ i.1 : Nat) : Int)), (1, Ty.int .i64 w), (5, Ty.str (bs (fldR n i.1))), (6, Ty.int .i64 (i.1 : Nat))] []) (fun i => w.toNat - i.1) (⟨0, h0⟩) ?_ fun i => ?_
  · (refine Ent.mk' ?_ ?_ <;> (repeat' (first | exact allSub_zero | exact allTags_nil | refine allSub_succ' ?_ (Ty.sub_any _) | refine allSub_succ' ?_ (Ty.sub_refl _) | refine allSub_succ' ?_ ?_)))
    all_goals first | exact Ty.sub_int (by simp) | exact Ty.str_eq' (congrArg bs (fr_0 n))
  ·
    have hil := i.2
    have hdn := div_le n i.1
    have hfl := fldR_len n i.1
    refine t_seq ?_
    refine t_seq ?_
    refine t_region ?_
    refine mvI rfl ?_
    refine mvI rfl ?_
    refine r_bin rfl rfl rfl ?_
    refine r_nil ?_
    refine i_then ?_
    refine t_cond_dec rfl (fun hc1 => ?_) (fun hc1 => ?_)
    ·
      refine t_skip ?_
      refine i_then ?_
      refine t_seq ?_
      refine t_block ?_
      refine t_seq ?_
      refine t_seq ?_
      refine t_region ?_
      refine mvI rfl ?_
      refine r_bin rfl rfl rfl ?_
      refine mvB rfl ?_
      apply r_guard (s := 14) rfl rfl rfl
      · intro hg; apply opT_of; (refine mvI rfl ?_); refine r_nil ?_; exact rfl
      · exact rfl
      · exact rfl
      apply r_guard (s := 14) rfl rfl rfl
      · intro hg; apply opT_strip (s := 15) rfl (by (rw [hg]; rfl)); apply opT_of; (refine r_bin rfl rfl rfl ?_); refine r_nil ?_; exact rfl
      · exact rfl
      · exact rfl
      refine r_and rfl rfl ?_
      refine r_nil ?_
      refine i_then ?_
      refine t_cond rfl (fun hc2 => ?_) (fun hc2 => ?_)
      ·
        refine t_seq ?_
        refine t_region ?_
        refine mvS' rfl ?_
        refine r_catS rfl rfl (by (simp <;> omega)) ?_
        refine asS' rfl ?_
        refine r_nil ?_
        refine i_then ?_
        refine t_exit ?_
        refine i_then_exit ?_
        refine i_block_exit rfl ?_
        refine i_then ?_
        refine t_region ?_
        refine mvI rfl ?_
        refine r_add rfl rfl (by omega) (by omega) ?_
        refine asI rfl ?_
        refine r_nil ?_
        refine i_round (⟨i.1 + 1, by omega⟩) ?_ (by show w.toNat - (i.1 + 1) < w.toNat - i.1; omega)
        (refine Ent.mk' ?_ ?_ <;> (repeat' (first | exact allSub_zero | exact allTags_nil | refine allSub_succ' ?_ (Ty.sub_any _) | refine allSub_succ' ?_ (Ty.sub_refl _) | refine allSub_succ' ?_ ?_)))
        all_goals skip
        all_goals first | exact Ty.sub_int (quo_0 hc2) | exact Ty.str_eq (fr_1 hc2)
      ·
        refine t_skip ?_
        refine i_then ?_
        refine t_seq ?_
        have ht : Int.tmod ((n / 10 ^ i.1 : Nat) : Int) 10 = ((n / 10 ^ i.1 % 10 : Nat) : Int) := rfl
        have hm10 := Nat.mod_lt (n / 10 ^ i.1) (show 0 < 10 by decide)
        refine t_region ?_
        refine mvI rfl ?_
        refine r_rem rfl rfl (by omega) ?_
        refine mvI rfl ?_
        refine r_rem rfl rfl (by omega) ?_
        refine r_add rfl rfl (by omega) (by omega) ?_
        refine r_cutS (a := digS) (lo := n / 10 ^ i.1 % 10) (hi := n / 10 ^ i.1 % 10 + 1) rfl rfl rfl rfl rfl (by omega) (by show _ ≤ 10; have := Nat.mod_lt (n / 10 ^ i.1) (show 0 < 10 by decide); omega) ?_
        refine mvS' rfl ?_
        refine r_catS rfl rfl (by (simp <;> omega)) ?_
        refine asS' rfl ?_
        refine r_nil ?_
        refine i_then ?_
        refine t_region ?_
        refine mvI rfl ?_
        refine r_quo rfl rfl (by omega) ?_
        refine asI rfl ?_
        refine r_nil ?_
        refine i_block ?_
        refine i_then ?_
        refine t_region ?_
        refine mvI rfl ?_
        refine r_add rfl rfl (by omega) (by omega) ?_
        refine asI rfl ?_
        refine r_nil ?_
        refine i_round (⟨i.1 + 1, by omega⟩) ?_ (by show w.toNat - (i.1 + 1) < w.toNat - i.1; omega)
        (refine Ent.mk' ?_ ?_ <;> (repeat' (first | exact allSub_zero | exact allTags_nil | refine allSub_succ' ?_ (Ty.sub_any _) | refine allSub_succ' ?_ (Ty.sub_refl _) | refine allSub_succ' ?_ ?_)))
        all_goals skip
        all_goals first | exact Ty.sub_int (quo_w hn) | exact Ty.str_eq (fr_2 hc2)
    ·
      refine t_exit ?_
      refine i_then_exit ?_
      refine i_then_exit ?_
      refine i_block_exit rfl ?_
      refine i_then ?_
      refine t_seq ?_
      refine t_region ?_
      refine mvS' rfl ?_
      refine asS' rfl ?_
      refine r_nil ?_
      refine i_then ?_
      refine t_ret ?_
      refine i_rp1 rfl rfl ?_
      all_goals skip
      rw [show w.toNat = i.1 by omega]; exact ret_refl rfl rfl
theorem c_FieldI (n w : Int) (h0 : 0 ≤ n) (hn : n ≤ 1000000000) (h1 : 1 ≤ w) (hw : w ≤ 20) (h : n < ten w) : Ctr Tryz.prog 123 [Ty.int .i64 n, Ty.int .i64 w] (Ty.str (bs (fldN n w))) := by
  have := c_Field n.toNat w (by omega) (by omega) (by omega)
  rwa [Int.toNat_of_nonneg h0, fld_ref h0 h1 hw h] at this
set_option maxRecDepth 100000 in
theorem c_fields (f : BForm) (hf : FormOk f) (r : BRow) (hr : RowOk f r) : Ctr Tryz.prog 92 [frmT f, rowT r] (Ty.str (bs (bef f r f.widths.length))) := by
  refine fn_intro Tryz.func92 rfl (by decide) Tryz.ntmps92 (by exact Nat.le_of_ble_eq_true rfl) fun w0 M0 => ?_
  have hn := hf.n2
  have hlen := hr.len
  refine t_seq ?_
  refine t_region ?_
  refine r_box_agg rfl ?_
  refine r_box_agg rfl ?_
  refine asS' rfl ?_
  refine r_nil ?_
  refine i_then ?_
  refine t_seq ?_
  refine t_region ?_
  refine asS' rfl ?_
  refine r_nil ?_
  refine i_then ?_
  refine t_seq ?_
  refine t_seq ?_
  refine t_region ?_
  refine asI rfl ?_
  refine r_nil ?_
  refine i_then ?_
  refine t_block ?_
  refine t_loop (fun (c : {c : Nat // c ≤ f.widths.length}) => live [(2, Ty.pp (frmTys f)), (3, Ty.pp (BRowE.tys r)), (5, Ty.str (bs (bef f r c.1))), (6, Ty.int .i64 (c.1 : Nat))] []) (fun c => f.widths.length - c.1) (⟨0, Nat.zero_le _⟩) ?_ fun c => ?_
  · (refine Ent.mk' ?_ ?_ <;> (repeat' (first | exact allSub_zero | exact allTags_nil | refine allSub_succ' ?_ (Ty.sub_any _) | refine allSub_succ' ?_ (Ty.sub_refl _))))
    all_goals trace_state
  ·
    refine t_seq ?_
    refine t_seq ?_
    refine t_region ?_
    refine mvI rfl ?_
    refine r_field_pp rfl rfl rfl rfl rfl (by decide) ?_
    refine r_load_pp rfl rfl rfl rfl ?_
    refine r_len rfl rfl rfl ?_
    refine r_bin rfl rfl rfl ?_
    refine r_nil ?_
    refine i_then ?_
    refine t_cond_dec rfl (fun hc1 => ?_) (fun hc1 => ?_)
    ·
      refine t_skip ?_
      refine i_then ?_
      refine t_seq ?_
      refine t_block ?_
      have hcw : c.1 < f.widths.length := by omega
      have hnum := hr.num c.1 hcw
      have hwid := nth_wid hf hcw
      have htl := ten_le (w := nth f.widths c.1) (by omega)
      have ht4 := ten_4 (w := nth f.widths c.1) (by omega)
      have hbl := bef_len hf hr (c := c.1) c.2
      have hfl := fldN_len hnum.1 hwid.1 (by omega) hnum.2
      refine t_draw mixed rfl ?_
      refine mvS' rfl ?_
      refine r_field_pp rfl rfl rfl rfl rfl (by decide) ?_
      refine r_load_pp rfl rfl rfl rfl ?_
      refine mvI rfl ?_
      refine r_index_slN rfl rfl rfl rfl rfl rfl (by omega) ?_
      refine r_load_pp rfl rfl rfl rfl ?_
      refine r_field_pp rfl rfl rfl rfl rfl (by decide) ?_
      refine r_load_pp rfl rfl rfl rfl ?_
      refine mvI rfl ?_
      refine r_index_slN rfl rfl rfl rfl rfl rfl (by omega) ?_
      refine r_load_pp rfl rfl rfl rfl ?_
      refine r_call (c_FieldI _ _ hnum.1 (by omega) hwid.1 (by omega) hnum.2) rfl rfl rfl rfl rfl ?_
      refine r_catS rfl rfl (by omega) ?_
      refine asS' rfl ?_
      refine r_nil ?_
      refine ⟨by kernel_rfl, ?_⟩
      refine i_block ?_
      refine i_then ?_
      refine t_region ?_
      refine mvI rfl ?_
      refine r_add rfl rfl (by omega) (by omega) ?_
      refine asI rfl ?_
      refine r_nil ?_
      refine i_round (⟨c.1 + 1, by omega⟩) ?_ (by show f.widths.length - (c.1 + 1) < f.widths.length - c.1; omega)
      (refine Ent.mk' ?_ ?_ <;> (repeat' (first | exact allSub_zero | exact allTags_nil | refine allSub_succ' ?_ (Ty.sub_any _) | refine allSub_succ' ?_ (Ty.sub_refl _) | refine allSub_succ' ?_ ?_)))
      all_goals skip
      all_goals exact Ty.str_eq (bef_succ f r c.1).symm
    ·
      refine t_exit ?_
      refine i_then_exit ?_
      refine i_then_exit ?_
      refine i_block_exit rfl ?_
      refine i_then ?_
      refine t_seq ?_
      refine t_region ?_
      refine mvS' rfl ?_
      refine asS' rfl ?_
      refine r_nil ?_
      refine i_then ?_
      refine t_ret ?_
      refine i_rp1 rfl rfl ?_
      all_goals skip
      exact ret_eq rfl rfl (congrArg (fun k => Ty.str (bs (bef f r k))) (show c.1 = f.widths.length by omega))
def letS : Byt := (List.range 23).map fun k => UInt8.ofNat (97 + k)
theorem let_cut {f : BForm} {r : BRow} : (letS.take ((letN f r).toNat % 23 + 1)).drop ((letN f r).toNat % 23) = [letB f r] := by
  have h : ∀ k : Fin 23, (letS.take (k.1 + 1)).drop k.1 = [UInt8.ofNat (97 + k.1)] := by decide
  exact h ⟨(letN f r).toNat % 23, Nat.mod_lt _ (by decide)⟩
theorem let_s {S : Byt} {i : Nat} (h : i < S.length) : addL 0 (S.take (i + 1)) = addL 0 (S.take i) + bytA i (nth S i) := by
  rw [take_nth h, addL_snoc, List.length_take_of_le (by omega)]
set_option maxRecDepth 100000 in
theorem c_rLetter (f : BForm) (hf : FormOk f) (r : BRow) (hr : RowOk f r) : Ctr Tryz.prog 36 [frmT f, rowT r] (Ty.str (bs [letB f r])) := by
  refine fn_intro Tryz.func36 rfl (by decide) Tryz.ntmps36 (by exact Nat.le_of_ble_eq_true rfl) fun w0 M0 => ?_
  have hS := bef_fld hf hr (Nat.le_refl _)
  have hSl := bef_len hf hr (Nat.le_refl _)
  have hn2 := hf.n2
  have hlb := letN_bnd hf hr
  have hle := letN_bef f r
  refine t_seq ?_
  refine t_region ?_
  refine r_box_agg rfl ?_
  refine r_box_agg rfl ?_
  refine asS' rfl ?_
  refine r_nil ?_
  refine i_then ?_
  refine t_seq ?_
  refine t_region ?_
  refine r_load_ppN rfl rfl rfl (by exact Nat.le_of_ble_eq_true rfl) ?_
  refine r_load_ppN rfl rfl rfl (by exact Nat.le_of_ble_eq_true rfl) ?_
  refine r_call (c_fields f hf r hr) rfl rfl rfl rfl rfl ?_
  refine asS' rfl ?_
  refine r_nil ?_
  refine i_then ?_
  refine t_seq ?_
  refine t_region ?_
  refine asI rfl ?_
  refine r_nil ?_
  refine i_then ?_
  refine t_seq ?_
  refine t_seq ?_
  refine t_region ?_
  refine asI rfl ?_
  refine r_nil ?_
  refine i_then ?_
  refine t_block ?_
  refine t_loop (fun (i : {i : Nat // i ≤ (bef f r f.widths.length).length}) => live [(2, Ty.pp (frmTys f)), (3, Ty.pp (BRowE.tys r)), (5, Ty.str (bs (bef f r f.widths.length))), (6, Ty.int .i64 (addL 0 ((bef f r f.widths.length).take i.1))), (7, Ty.int .i64 (i.1 : Nat))] []) (fun i => (bef f r f.widths.length).length - i.1) (⟨0, Nat.zero_le _⟩) ?_ fun i => ?_
  · (refine Ent.mk' ?_ ?_ <;> (repeat' (first | exact allSub_zero | exact allTags_nil | refine allSub_succ' ?_ (Ty.sub_any _) | refine allSub_succ' ?_ (Ty.sub_refl _))))
    all_goals trace_state
  ·
    have hib := addL_small (l := (bef f r f.widths.length).take i.1) (fun x hx => hS x (List.mem_of_mem_take hx)) (by rw [List.length_take]; omega)
    refine t_seq ?_
    refine t_seq ?_
    refine t_region ?_
    refine mvI rfl ?_
    refine mvS' rfl ?_
    refine r_lenS rfl rfl rfl ?_
    refine r_bin rfl rfl rfl ?_
    refine r_nil ?_
    refine i_then ?_
    refine t_cond_dec rfl (fun hc1 => ?_) (fun hc1 => ?_)
    ·
      refine t_skip ?_
      refine i_then ?_
      refine t_seq ?_
      refine t_block ?_
      refine t_seq ?_
      have hi : i.1 < (bef f r f.widths.length).length := by omega
      have hx := hS _ (nth_mem hi)
      have hst := let_s hi
      refine t_region ?_
      refine mvS' rfl ?_
      refine mvI rfl ?_
      refine r_idxS (i := i.1) rfl rfl rfl rfl hi ?_
      refine r_bin rfl rfl rfl ?_
      refine r_nil ?_
      refine i_then ?_
      refine t_cond_ndec rfl (fun hc2 => ?_) (fun hc2 => ?_)
      ·
        have hb := bytA_fig (k := i.1) hx hc2
        have hbb := bytA_bnd hx i.1
        rw [hb.1] at hbb
        refine t_region ?_
        refine mvI rfl ?_
        refine mvI rfl ?_
        refine r_add rfl rfl (by omega) (by omega) ?_
        refine mvS' rfl ?_
        refine mvI rfl ?_
        refine r_idxS (i := i.1) rfl rfl rfl rfl hi ?_
        refine r_convK rfl rfl rfl rfl (IntWalk.i64_in ((nth (bef f r f.widths.length) i.1).toNat : Int) (by omega)) ?_
        refine r_sub rfl rfl (by omega) (by omega) ?_
        refine r_mul rfl rfl (by omega) (by omega) ?_
        refine r_add rfl rfl (by omega) (by omega) ?_
        refine asI rfl ?_
        refine r_nil ?_
        refine i_block ?_
        refine i_then ?_
        refine t_region ?_
        refine mvI rfl ?_
        refine r_add rfl rfl (by omega) (by omega) ?_
        refine asI rfl ?_
        refine r_nil ?_
        refine i_round (⟨i.1 + 1, by omega⟩) ?_ (by show (bef f r f.widths.length).length - (i.1 + 1) < (bef f r f.widths.length).length - i.1; omega)
        (refine Ent.mk' ?_ ?_ <;> (repeat' (first | exact allSub_zero | exact allTags_nil | refine allSub_succ' ?_ (Ty.sub_any _) | refine allSub_succ' ?_ (Ty.sub_refl _) | refine allSub_succ' ?_ ?_)))
        all_goals skip
        all_goals exact Ty.sub_int (by rw [hst, hb.1])
      ·
        refine t_skip ?_
        refine i_block ?_
        refine i_then ?_
        refine t_region ?_
        refine mvI rfl ?_
        refine r_add rfl rfl (by omega) (by omega) ?_
        refine asI rfl ?_
        refine r_nil ?_
        refine i_round (⟨i.1 + 1, by omega⟩) ?_ (by show (bef f r f.widths.length).length - (i.1 + 1) < (bef f r f.widths.length).length - i.1; omega)
        (refine Ent.mk' ?_ ?_ <;> (repeat' (first | exact allSub_zero | exact allTags_nil | refine allSub_succ' ?_ (Ty.sub_any _) | refine allSub_succ' ?_ (Ty.sub_refl _) | refine allSub_succ' ?_ ?_)))
        all_goals skip
        all_goals exact Ty.sub_int (by rw [hst, bytA_blank (by omega), Int.add_zero])
    ·
      refine t_exit ?_
      refine i_then_exit ?_
      refine i_then_exit ?_
      refine i_block_exit rfl ?_
      refine i_then ?_
      refine t_join (J := live [(6, Ty.int .i64 ((letN f r).toNat : Nat))] []) ?_ ?_
      ·
        refine t_seq ?_
        have hie : i.1 = (bef f r f.widths.length).length := by omega
        have hal : addL 0 ((bef f r f.widths.length).take i.1) = addL 0 (bef f r f.widths.length) := by rw [List.take_of_length_le (by omega)]
        refine t_region ?_
        refine r_field_pp rfl rfl rfl rfl rfl (by decide) ?_
        refine r_load_pp rfl rfl rfl rfl ?_
        refine r_nil ?_
        refine i_then ?_
        refine t_cond rfl (fun hc3 => ?_) (fun hc3 => ?_)
        ·
          refine t_region ?_
          refine mvI rfl ?_
          refine r_add rfl rfl (by omega) (by omega) ?_
          refine asI rfl ?_
          refine r_nil ?_
          refine i_join ?_
          (refine Ent.mk' ?_ ?_ <;> (repeat' (first | exact allSub_zero | exact allTags_nil | refine allSub_succ' ?_ (Ty.sub_any _) | refine allSub_succ' ?_ ?_)))
          all_goals exact Ty.sub_int (by rw [hc3] at hle; simp at hle; omega)
        ·
          refine t_skip ?_
          refine i_join ?_
          (refine Ent.mk' ?_ ?_ <;> (repeat' (first | exact allSub_zero | exact allTags_nil | refine allSub_succ' ?_ (Ty.sub_any _) | refine allSub_succ' ?_ ?_)))
          all_goals exact Ty.sub_int (by rw [hc3] at hle; simp at hle; omega)
      ·
        refine t_seq ?_
        have ht : Int.tmod (((letN f r).toNat : Nat) : Int) 23 = (((letN f r).toNat % 23 : Nat) : Int) := rfl
        refine t_region ?_
        refine mvI rfl ?_
        refine r_rem rfl rfl (by omega) ?_
        refine mvI rfl ?_
        refine r_rem rfl rfl (by omega) ?_
        refine r_add rfl rfl (by omega) (by omega) ?_
        refine r_cutS (a := letS) (lo := (letN f r).toNat % 23) (hi := (letN f r).toNat % 23 + 1) rfl rfl rfl rfl rfl (by omega) (by show _ ≤ 23; have := Nat.mod_lt (letN f r).toNat (show 0 < 23 by decide); omega) ?_
        refine asS' rfl ?_
        refine r_nil ?_
        refine i_then ?_
        refine t_ret ?_
        refine i_rp1 rfl rfl ?_
        all_goals skip
        exact ret_eq rfl rfl (congrArg (fun l => Ty.str (bs l)) let_cut)
end Go.Proofs.YtjjndkenddigiaaGreatDoor

namespace Go.Proofs.YtjjndkenddigiaaGreatDoor
open Go Go.T
def sumW (W : Nat) (rows : List BRow) : List Int := (List.range W).map (sumC rows)
def midW (W : Nat) (rows : List BRow) (r : BRow) (c : Nat) : List Int := (List.range W).map fun k => if k < c then sumC rows k + wthR r k else sumC rows k
theorem sumW_nil (W : Nat) : List.replicate W (0 : Int) = sumW W [] := by
  apply List.ext_getElem (by simp [sumW])
  intro k h1 h2
  simp [sumW, sumC]
theorem midW_0 (W : Nat) (rows : List BRow) (r : BRow) : sumW W rows = midW W rows r 0 := by simp [sumW, midW]
theorem midW_len (W : Nat) (rows : List BRow) (r : BRow) (c : Nat) : (midW W rows r c).length = W := by simp [midW]
theorem sumW_len (W : Nat) (rows : List BRow) : (sumW W rows).length = W := by simp [sumW]
theorem midW_nth {W : Nat} {rows : List BRow} {r : BRow} {c : Nat} (h : c < W) : nth (midW W rows r c) c = sumC rows c := by simp [midW, nth, h]
theorem midW_set {W : Nat} {rows : List BRow} {r : BRow} {c : Nat} (h : c < W) (hs : r.struck = false) : (midW W rows r c).set c (sumC rows c + nth r.nums c) = midW W rows r (c + 1) := by
  apply List.ext_getElem (by simp [midW])
  intro k h1 h2
  rw [List.getElem_set]
  by_cases e : c = k
  · subst e; simp [midW, wthR, hs]
  · rw [if_neg e]
    simp only [midW, List.getElem_map, List.getElem_range]
    by_cases e2 : k < c
    · rw [if_pos e2, if_pos (by omega)]
    · rw [if_neg e2, if_neg (by omega)]
theorem midW_end {W : Nat} {rows : List BRow} {i c : Nat} (hi : i < rows.length) (hc : c ≤ W) (h : (decide ((c : Int) < (W : Int)) && !(nth rows i).struck) = false) : midW W (rows.take i) (nth rows i) c = sumW W (rows.take (i + 1)) := by
  apply List.ext_getElem (by simp [midW, sumW])
  intro k h1 h2
  simp only [midW, sumW, List.getElem_map, List.getElem_range]
  rw [take_nth hi, sumC_snoc]
  simp only [midW_len] at h1
  cases hs : (nth rows i).struck with
  | true => have e : wthR (nth rows i) k = 0 := by simp [wthR, hs]
            rw [e]; split <;> simp
  | false =>
    rw [hs] at h
    have : c = W := by simp at h; omega
    rw [if_pos (by omega)]
theorem take_smallW {rows : List BRow} (h : SmallR rows) (hl : rows.length ≤ 1000) (i c : Nat) : 0 ≤ sumC (rows.take i) c ∧ sumC (rows.take i) c ≤ 10000000 := by
  have h1 := sumC_bnd (take_small h i) c
  have h2 : (rows.take i).length ≤ 1000 := by rw [List.length_take]; omega
  omega
end Go.Proofs.YtjjndkenddigiaaGreatDoor

namespace Go.Proofs.YtjjndkenddigiaaGreatDoor
open Go Go.T
set_option maxHeartbeats 1000000
theorem sumW_take {W : Nat} {rows : List BRow} : sumW W [] = sumW W (rows.take 0) := by rw [List.take_zero]
theorem mid_go {c W : Nat} {s : Bool} (h : (decide ((c : Int) < (W : Int)) && !s) = true) : c < W ∧ s = false := by
  simp at h; exact ⟨h.1, h.2⟩
attribute [local irreducible] sumW midW sumC
attribute [local irreducible] dInt dBool dSl dPp dPtr dAgg dTup dClo dAny dEx dStr dGd dCells dVec dVs dRow dOp nth Tri Into TOps Ctr bodyPost Exit.then Exit.inBlock Code.wp Code.wpIn dWhen dPa dArr dMp dMap CtrG keepPost iterPost bodyPostM roundQ
set_option maxRecDepth 100000 in
theorem c_Sums (f : BForm) (hf : FormOk f) (rows : List BRow) (h : SmallR rows) (hl : rows.length ≤ 1000) (hw : ∀ r ∈ rows, r.nums.length = f.widths.length) (many : Nat) (hm : many ≤ rows.length) : Ctr Tryz.prog 68 [frmT f, Ty.sl BRowE rows, Ty.int .i64 (many : Nat)] (Ty.sl I64 (sumW f.widths.length (rows.take many))) := by
  refine fn_intro Tryz.func68 rfl (by decide) Tryz.ntmps68 (by exact Nat.le_of_ble_eq_true rfl) fun w0 M0 => ?_
  have hn2 := hf.n2
  refine t_seq ?_
  refine t_region ?_
  refine r_box_agg rfl ?_
  refine asX rfl ?_
  refine r_nil ?_
  refine i_then ?_
  refine t_seq ?_
  refine t_region ?_
  refine r_field_pp rfl rfl rfl rfl rfl (by decide) ?_
  refine r_load_pp rfl rfl rfl rfl ?_
  refine r_len rfl rfl rfl ?_
  refine r_makeV (E := I64) (x0 := 0) rfl rfl rfl rfl rfl rfl rfl (by decide) rfl (by omega) (by (dsimp only; omega)) (by omega) ?_
  refine r_assign rfl ?_
  refine r_nil ?_
  refine i_then ?_
  refine t_seq ?_
  refine t_seq ?_
  refine t_region ?_
  refine asI rfl ?_
  refine r_nil ?_
  refine i_then ?_
  refine t_block ?_
  refine t_loop (fun (i : {i : Nat // i ≤ many}) => live [(1, Ty.sl BRowE rows), (2, Ty.int .i64 (many : Nat)), (3, Ty.pp (frmTys f)), (7, Ty.vs 14 f.widths.length), (8, Ty.int .i64 (i.1 : Nat))] [(14, Cont.vec I64 3 (sumW f.widths.length (rows.take i.1)))]) (fun i => many - i.1) (⟨0, Nat.zero_le _⟩) ?_ fun i => ?_
  · (refine Ent.mk' ?_ ?_ <;> (repeat' (first | exact allSub_zero | exact allTags_nil | refine allSub_succ' ?_ (Ty.sub_any _) | refine allSub_succ' ?_ (Ty.sub_refl _) | refine allTags_cons rfl ?_ ?_)))
    all_goals exact Cont.sub_vec ((sumW_nil _).trans sumW_take)
  ·
    refine t_seq ?_
    refine t_seq ?_
    refine t_region ?_
    refine mvI rfl ?_
    refine mvI rfl ?_
    refine r_bin rfl rfl rfl ?_
    refine r_nil ?_
    refine i_then ?_
    refine t_cond_dec rfl (fun hc1 => ?_) (fun hc1 => ?_)
    ·
      refine t_skip ?_
      refine i_then ?_
      refine t_seq ?_
      refine t_block ?_
      refine t_seq ?_
      have hi : i.1 < rows.length := by omega
      have hwi := hw _ (nth_mem hi)
      have hsi := h _ (nth_mem hi)
      refine t_region ?_
      refine asI rfl ?_
      refine r_nil ?_
      refine i_then ?_
      refine t_block ?_
      refine t_loop (fun (c : {c : Nat // c ≤ f.widths.length}) => live [(1, Ty.sl BRowE rows), (2, Ty.int .i64 (many : Nat)), (3, Ty.pp (frmTys f)), (7, Ty.vs 14 f.widths.length), (8, Ty.int .i64 (i.1 : Nat)), (9, Ty.int .i64 (c.1 : Nat))] [(14, Cont.vec I64 3 (midW f.widths.length (rows.take i.1) (nth rows i.1) c.1))]) (fun c => f.widths.length - c.1) (⟨0, Nat.zero_le _⟩) ?_ fun c => ?_
      · (refine Ent.mk' ?_ ?_ <;> (repeat' (first | exact allSub_zero | exact allTags_nil | refine allSub_succ' ?_ (Ty.sub_any _) | refine allSub_succ' ?_ (Ty.sub_refl _) | refine allTags_cons rfl ?_ ?_)))
        all_goals exact Cont.sub_vec (midW_0 _ _ _)
      ·
        refine t_seq ?_
        refine t_seq ?_
        refine t_region ?_
        refine mvI rfl ?_
        refine r_field_pp rfl rfl rfl rfl rfl (by decide) ?_
        refine r_load_pp rfl rfl rfl rfl ?_
        refine r_len rfl rfl rfl ?_
        refine r_bin rfl rfl rfl ?_
        refine mvB rfl ?_
        apply r_guard (s := 24) rfl rfl rfl
        · intro hg; apply opT_of; (refine mvS rfl ?_); refine r_nil ?_; exact rfl
        · exact rfl
        · exact rfl
        apply r_guard (s := 24) rfl rfl rfl
        · intro hg; apply opT_of; (refine mvI rfl ?_); refine r_nil ?_; exact rfl
        · exact rfl
        · exact rfl
        apply r_guard (s := 24) rfl rfl rfl
        · intro hg; apply opT_strip (s := 25) rfl (by (rw [hg]; rfl)); apply opT_strip (s := 26) rfl (by (rw [hg]; rfl)); apply opT_of; (refine r_index_slN rfl rfl rfl rfl rfl rfl (by omega) ?_); refine r_nil ?_; exact rfl
        · exact rfl
        · exact rfl
        apply r_guard (s := 24) rfl rfl rfl
        · intro hg; apply opT_strip (s := 27) rfl (by (rw [hg]; rfl)); apply opT_of; (refine r_field_pp rfl rfl rfl rfl rfl (by decide) ?_); refine r_nil ?_; exact rfl
        · exact rfl
        · exact rfl
        apply r_guard (s := 24) rfl rfl rfl
        · intro hg; apply opT_strip (s := 28) rfl (by (rw [hg]; rfl)); apply opT_of; (refine r_load_pp rfl rfl rfl rfl ?_); refine r_nil ?_; exact rfl
        · exact rfl
        · exact rfl
        apply r_guard (s := 24) rfl rfl rfl
        · intro hg; apply opT_strip (s := 29) rfl (by (rw [hg]; rfl)); apply opT_of; (refine r_not rfl ?_); refine r_nil ?_; exact rfl
        · exact rfl
        · exact rfl
        refine r_and rfl rfl ?_
        refine r_nil ?_
        refine i_then ?_
        refine t_cond rfl (fun hc2 => ?_) (fun hc2 => ?_)
        ·
          refine t_skip ?_
          refine i_then ?_
          refine t_seq ?_
          refine t_block ?_
          have hcs := mid_go hc2
          have hml := midW_len f.widths.length (rows.take i.1) (nth rows i.1) c.1
          have hmn : nth (midW f.widths.length (rows.take i.1) (nth rows i.1) c.1) c.1 = sumC (rows.take i.1) c.1 := midW_nth hcs.1
          have hsb := take_smallW h hl i.1 c.1
          have hnb : 0 ≤ nth (nth rows i.1).nums c.1 ∧ nth (nth rows i.1).nums c.1 < 10000 := hsi.2 c.1
          refine t_draw mixed rfl ?_
          refine mvV rfl ?_
          refine mvI rfl ?_
          refine mvV rfl ?_
          refine mvI rfl ?_
          refine r_index_vs rfl rfl rfl rfl rfl (by omega) ?_
          refine r_load_vecB rfl rfl rfl (by decide) rfl rfl (by omega) rfl ?_
          refine mvS rfl ?_
          refine mvI rfl ?_
          refine r_index_slN rfl rfl rfl rfl rfl rfl (by omega) ?_
          refine r_field_pp rfl rfl rfl rfl rfl (by decide) ?_
          refine r_load_pp rfl rfl rfl rfl ?_
          refine mvI rfl ?_
          refine r_index_slN rfl rfl rfl rfl rfl rfl (by omega) ?_
          refine r_load_pp rfl rfl rfl rfl ?_
          refine r_add rfl rfl (by omega) (by omega) ?_
          refine r_index_vs rfl rfl rfl rfl rfl (by omega) ?_
          refine r_store_vecB rfl rfl rfl (by decide) rfl rfl (by exact (rfl : _ = Ty.int _ _)) rfl (by omega) (by decide) rfl rfl ?_
          refine r_nil ?_
          refine ⟨by kernel_rfl, ?_⟩
          refine i_block ?_
          refine i_then ?_
          refine t_region ?_
          refine mvI rfl ?_
          refine r_add rfl rfl (by omega) (by omega) ?_
          refine asI rfl ?_
          refine r_nil ?_
          refine i_round (⟨c.1 + 1, by omega⟩) ?_ (by show f.widths.length - (c.1 + 1) < f.widths.length - c.1; omega)
          (refine Ent.mk' ?_ ?_ <;> (repeat' (first | exact allSub_zero | exact allTags_nil | refine allSub_succ' ?_ (Ty.sub_any _) | refine allSub_succ' ?_ (Ty.sub_refl _) | refine allTags_cons rfl ?_ ?_)))
          all_goals skip
          all_goals exact Cont.sub_vec (by rw [hmn]; exact midW_set hcs.1 hcs.2)
        ·
          refine t_exit ?_
          refine i_then_exit ?_
          refine i_then_exit ?_
          refine i_block_exit rfl ?_
          refine i_block ?_
          refine i_then ?_
          refine t_region ?_
          refine mvI rfl ?_
          refine r_add rfl rfl (by omega) (by omega) ?_
          refine asI rfl ?_
          refine r_nil ?_
          refine i_round (⟨i.1 + 1, by omega⟩) ?_ (by show many - (i.1 + 1) < many - i.1; omega)
          (refine Ent.mk' ?_ ?_ <;> (repeat' (first | exact allSub_zero | exact allTags_nil | refine allSub_succ' ?_ (Ty.sub_any _) | refine allSub_succ' ?_ (Ty.sub_refl _) | refine allTags_cons rfl ?_ ?_)))
          all_goals skip
          all_goals exact Cont.sub_vec (midW_end hi c.2 hc2)
    ·
      refine t_exit ?_
      refine i_then_exit ?_
      refine i_then_exit ?_
      refine i_block_exit rfl ?_
      refine i_then ?_
      refine t_seq ?_
      refine t_pub (tg := 14) [(7, Ty.sl I64 (sumW f.widths.length (rows.take i.1)))] (by decide) rfl ⟨pub_vs rfl rfl (sumW_len _ _) (by decide), trivial⟩ ?_
      refine t_region ?_
      refine mvS rfl ?_
      refine asS rfl ?_
      refine r_nil ?_
      refine i_then ?_
      refine t_ret ?_
      refine i_rp1 rfl rfl ?_
      all_goals skip
      exact ret_eq rfl rfl (congrArg (fun k => Ty.sl I64 (sumW f.widths.length (rows.take k))) (show i.1 = many by omega))
end Go.Proofs.YtjjndkenddigiaaGreatDoor

namespace Go.Proofs.YtjjndkenddigiaaGreatDoor
open Go Go.T
set_option maxHeartbeats 1000000
theorem sumC_row {f : BForm} {c : Nat} (hc : c < f.widths.length) : ∀ {rows : List BRow}, (∀ r ∈ rows, RowOk f r) → 0 ≤ sumC rows c ∧ sumC rows c ≤ rows.length * (ten (nth f.widths c) - 1)
  | [], _ => by simp [sumC]
  | r :: rows, h => by
    obtain ⟨h1, h2⟩ := sumC_row hc (rows := rows) fun r hr => h r (List.mem_cons_of_mem _ hr)
    obtain ⟨h3, h4⟩ := (h r List.mem_cons_self).num c hc
    have e : sumC (r :: rows) c = wthR r c + sumC rows c := by simp [sumC]
    have hw : 0 ≤ wthR r c ∧ wthR r c ≤ ten (nth f.widths c) - 1 := by unfold wthR; split <;> omega
    rw [e, List.length_cons, show (((rows.length + 1 : Nat) : Int) * (ten (nth f.widths c) - 1)) = (rows.length : Int) * (ten (nth f.widths c) - 1) + (ten (nth f.widths c) - 1) by rw [Int.natCast_add, Int.add_mul]; simp]
    omega
theorem sum_fits {f : BForm} (hf : FormOk f) {rows : List BRow} (h : ∀ r ∈ rows, RowOk f r) (hl : rows.length ≤ 12) {c : Nat} (hc : c < f.widths.length) : 0 ≤ sumC rows c ∧ sumC rows c < ten (nth f.widths c + 2) ∧ sumC rows c ≤ 1000000 := by
  obtain ⟨h1, h2⟩ := sumC_row hc h
  obtain ⟨w1, w2⟩ := nth_wid hf hc
  have t1 := ten_pos (nth f.widths c)
  have t4 := ten_4 w2
  have e : ten (nth f.widths c + 2) = 100 * ten (nth f.widths c) := by rw [show nth f.widths c + 2 = (nth f.widths c + 1) + 1 by omega, ten_next (by omega), ten_next (by omega)]; omega
  have hm : (rows.length : Int) * (ten (nth f.widths c) - 1) ≤ 12 * (ten (nth f.widths c) - 1) := Int.mul_le_mul_of_nonneg_right (by omega) (by omega)
  rw [e]; omega
theorem sumW_nth {W : Nat} {rows : List BRow} {c : Nat} (h : c < W) : nth (sumW W rows) c = sumC rows c := by simp [sumW, nth, h]
theorem ln_0 (f : BForm) (rows : List BRow) (mark : Byt) : mark = mark ++ lnP f rows 0 := by rw [show lnP f rows 0 = [] from rfl, List.append_nil]
theorem ln_s {f : BForm} {rows : List BRow} {mark : Byt} {c : Nat} : mark ++ lnP f rows c ++ fldN (sumC rows c) (nth f.widths c + 2) ++ [124] = mark ++ lnP f rows (c + 1) := by rw [lnP_succ]; simp
theorem ln_e {f : BForm} {rows : List BRow} {mark : Byt} {c : Nat} (h : c = f.widths.length) : mark ++ lnP f rows c ++ [10] = mark ++ lineB f rows := by subst h; rw [List.append_assoc]; rfl
def matN : Byt → Byt → Nat
  | x :: t, y :: s => if x = y then matN t s + 1 else 0
  | _, _ => 0
theorem mat_gen : ∀ (n : Nat) (t s : Byt), n ≤ t.length → n ≤ s.length → (∀ j, j < n → nth t j = nth s j) → ¬ (n < s.length ∧ n < t.length ∧ nth t n = nth s n) → matN t s = n
  | 0, [], _, _, _, _, _ => by unfold matN; rfl
  | 0, x :: t, [], _, _, _, _ => by unfold matN; rfl
  | 0, x :: t, y :: s, _, _, _, h => by
    unfold matN; rw [if_neg]; intro e; exact h ⟨Nat.succ_pos _, Nat.succ_pos _, e⟩
  | n + 1, x :: t, y :: s, h1, h2, h3, h4 => by
    have h0 : x = y := h3 0 (Nat.succ_pos _)
    unfold matN; rw [if_pos h0, mat_gen n t s (by simpa using h1) (by simpa using h2) (fun j hj => h3 (j + 1) (by omega)) (fun hc => h4 ⟨by simpa using hc.1, by simpa using hc.2.1, hc.2.2⟩)]
theorem nth_drop {α : Type} [Inhabited α] {l : List α} {a j : Nat} : nth (l.drop a) j = nth l (a + j) := by simp [nth, List.getElem?_drop]
theorem mt_i {n a : Nat} {t s : Byt} (h : (decide ((n : Int) < (s.length : Int)) && decide ((a : Int) + (n : Int) < (t.length : Int))) = true) : n < s.length ∧ a + n < t.length := by simp at h; omega
theorem mt_go {n a : Nat} {t s : Byt} (h : ((decide ((n : Int) < (s.length : Int)) && decide ((a : Int) + (n : Int) < (t.length : Int))) && decide (((nth t (a + n)).toNat : Int) = ((nth s n).toNat : Int))) = true) : n < s.length ∧ a + n < t.length ∧ nth t (a + n) = nth s n := by
  rw [Bool.and_eq_true] at h
  exact ⟨(mt_i h.1).1, (mt_i h.1).2, u8_i.1 (by simpa using h.2)⟩
theorem mt_end {n a : Nat} {t s : Byt} (hn : n ≤ s.length ∧ a + n ≤ t.length ∧ ∀ j, j < n → nth t (a + j) = nth s j) (h : ((decide ((n : Int) < (s.length : Int)) && decide ((a : Int) + (n : Int) < (t.length : Int))) && decide (((nth t (a + n)).toNat : Int) = ((nth s n).toNat : Int))) = false) : matN (t.drop a) s = n := by
  refine mat_gen n _ s (by rw [List.length_drop]; omega) hn.1 (fun j hj => by rw [nth_drop]; exact hn.2.2 j hj) fun hc => ?_
  rw [nth_drop, List.length_drop] at hc
  have h1 : (n : Int) < (s.length : Int) := by omega
  have h2 : (a : Int) + (n : Int) < (t.length : Int) := by omega
  simp [h1, h2, hc.2.2] at h
theorem take_all {rows : List BRow} : rows.take rows.length = rows := List.take_length
attribute [local irreducible] sumW sumC lnP lineB
attribute [local irreducible] dInt dBool dSl dPp dPtr dAgg dTup dClo dAny dEx dStr dGd dCells dVec dVs dRow dOp nth Tri Into TOps Ctr bodyPost Exit.then Exit.inBlock Code.wp Code.wpIn dWhen dPa dArr dMp dMap CtrG keepPost iterPost bodyPostM roundQ
set_option maxRecDepth 100000 in
theorem c_sumLine (f : BForm) (hf : FormOk f) (rows : List BRow) (h : ∀ r ∈ rows, RowOk f r) (hl : rows.length ≤ 12) (mark : Byt) (hmk : mark.length ≤ 10) : Ctr Tryz.prog 66 [frmT f, Ty.sl BRowE rows, Ty.str (bs mark)] (Ty.str (bs (mark ++ lineB f rows))) := by
  refine fn_intro Tryz.func66 rfl (by decide) Tryz.ntmps66 (by exact Nat.le_of_ble_eq_true rfl) fun w0 M0 => ?_
  have hn := hf.n2
  have hs : SmallR rows := fun r hr => small_of hf (h r hr)
  have hc1' := c_Sums f hf rows hs (by omega) (fun r hr => (h r hr).len) rows.length (Nat.le_refl _)
  rw [take_all] at hc1'
  refine t_seq ?_
  refine t_region ?_
  refine r_box_agg rfl ?_
  refine asS' rfl ?_
  refine r_nil ?_
  refine i_then ?_
  refine t_seq ?_
  refine t_region ?_
  refine r_load_ppN rfl rfl rfl (by exact Nat.le_of_ble_eq_true rfl) ?_
  refine mvS rfl ?_
  refine mvS rfl ?_
  refine r_len rfl rfl rfl ?_
  refine r_call hc1' rfl rfl rfl rfl rfl ?_
  refine asS rfl ?_
  refine r_nil ?_
  refine i_then ?_
  refine t_seq ?_
  refine t_region ?_
  refine mvS' rfl ?_
  refine asS' rfl ?_
  refine r_nil ?_
  refine i_then ?_
  refine t_seq ?_
  refine t_seq ?_
  refine t_region ?_
  refine asI rfl ?_
  refine r_nil ?_
  refine i_then ?_
  refine t_block ?_
  refine t_loop (fun (c : {c : Nat // c ≤ f.widths.length}) => live [(3, Ty.pp (frmTys f)), (7, Ty.sl I64 (sumW f.widths.length rows)), (8, Ty.str (bs (mark ++ lnP f rows c.1))), (9, Ty.int .i64 (c.1 : Nat))] []) (fun c => f.widths.length - c.1) (⟨0, Nat.zero_le _⟩) ?_ fun c => ?_
  · (refine Ent.mk' ?_ ?_ <;> (repeat' (first | exact allSub_zero | exact allTags_nil | refine allSub_succ' ?_ (Ty.sub_any _) | refine allSub_succ' ?_ (Ty.sub_refl _) | refine allSub_succ' ?_ ?_)))
    all_goals exact Ty.str_eq (ln_0 f rows mark)
  ·
    refine t_seq ?_
    refine t_seq ?_
    refine t_region ?_
    refine mvI rfl ?_
    refine r_field_pp rfl rfl rfl rfl rfl (by decide) ?_
    refine r_load_pp rfl rfl rfl rfl ?_
    refine r_len rfl rfl rfl ?_
    refine r_bin rfl rfl rfl ?_
    refine r_nil ?_
    refine i_then ?_
    refine t_cond_dec rfl (fun hc1 => ?_) (fun hc1 => ?_)
    ·
      refine t_skip ?_
      refine i_then ?_
      refine t_seq ?_
      refine t_block ?_
      have hcw : c.1 < f.widths.length := by omega
      have hwid := nth_wid hf hcw
      have hsf := sum_fits hf h hl hcw
      have hsl := sumW_len f.widths.length rows
      have hsn : nth (sumW f.widths.length rows) c.1 = sumC rows c.1 := sumW_nth hcw
      have hlp := lnP_len hf hs (by omega) c.2
      have hfl := fldN_len hsf.1 (show 1 ≤ nth f.widths c.1 + 2 by omega) (by omega) hsf.2.1
      rw [← hsn] at hfl
      refine t_draw mixed rfl ?_
      refine mvS' rfl ?_
      refine mvS rfl ?_
      refine mvI rfl ?_
      refine r_index_slN rfl rfl rfl rfl rfl rfl (by omega) ?_
      refine r_load_pp rfl rfl rfl rfl ?_
      refine r_field_pp rfl rfl rfl rfl rfl (by decide) ?_
      refine r_load_pp rfl rfl rfl rfl ?_
      refine mvI rfl ?_
      refine r_index_slN rfl rfl rfl rfl rfl rfl (by omega) ?_
      refine r_load_pp rfl rfl rfl rfl ?_
      refine r_add rfl rfl (by omega) (by omega) ?_
      refine r_call (c_FieldI (nth (sumW f.widths.length rows) c.1) (nth f.widths c.1 + 2) (by rw [hsn]; exact hsf.1) (by rw [hsn]; omega) (by omega) (by omega) (by rw [hsn]; exact hsf.2.1)) rfl rfl rfl rfl rfl ?_
      refine r_catS rfl rfl (by (simp <;> omega)) ?_
      refine r_catS rfl rfl (by (simp <;> omega)) ?_
      refine asS' rfl ?_
      refine r_nil ?_
      refine ⟨by kernel_rfl, ?_⟩
      refine i_block ?_
      refine i_then ?_
      refine t_region ?_
      refine mvI rfl ?_
      refine r_add rfl rfl (by omega) (by omega) ?_
      refine asI rfl ?_
      refine r_nil ?_
      refine i_round (⟨c.1 + 1, by omega⟩) ?_ (by show f.widths.length - (c.1 + 1) < f.widths.length - c.1; omega)
      (refine Ent.mk' ?_ ?_ <;> (repeat' (first | exact allSub_zero | exact allTags_nil | refine allSub_succ' ?_ (Ty.sub_any _) | refine allSub_succ' ?_ (Ty.sub_refl _) | refine allSub_succ' ?_ ?_)))
      all_goals skip
      all_goals exact Ty.str_eq (by rw [hsn]; exact ln_s)
    ·
      refine t_exit ?_
      refine i_then_exit ?_
      refine i_then_exit ?_
      refine i_block_exit rfl ?_
      refine i_then ?_
      refine t_seq ?_
      have hlp := lnP_len hf hs (by omega) c.2
      refine t_region ?_
      refine mvS' rfl ?_
      refine r_catS rfl rfl (by (simp <;> omega)) ?_
      refine asS' rfl ?_
      refine r_nil ?_
      refine i_then ?_
      refine t_ret ?_
      refine i_rp1 rfl rfl ?_
      all_goals skip
      exact ret_eq rfl rfl (congrArg (fun l => Ty.str (bs l)) (ln_e (by omega)))
set_option maxRecDepth 100000 in
theorem c_match (t : Byt) (a : Nat) (s : Byt) (ha : a ≤ t.length) (hl : t.length ≤ 1000000) : Ctr Tryz.prog 78 [Ty.str (bs t), Ty.int .i64 (a : Nat), Ty.str (bs s)] (Ty.int .i64 (matN (t.drop a) s : Nat)) := by
  refine fn_intro Tryz.func78 rfl (by decide) Tryz.ntmps78 (by exact Nat.le_of_ble_eq_true rfl) fun w0 M0 => ?_
  refine t_seq ?_
  refine t_region ?_
  refine asI rfl ?_
  refine r_nil ?_
  refine i_then ?_
  refine t_seq ?_
  refine t_region ?_
  refine asI rfl ?_
  refine r_nil ?_
  refine i_then ?_
  refine t_seq ?_
  refine t_block ?_
  refine t_loop (fun (n : {n : Nat // n ≤ s.length ∧ a + n ≤ t.length ∧ ∀ j, j < n → nth t (a + j) = nth s j}) => live [(0, Ty.str (bs t)), (1, Ty.int .i64 (a : Nat)), (2, Ty.str (bs s)), (7, Ty.int .i64 (n.1 : Nat))] []) (fun n => s.length - n.1) (⟨0, Nat.zero_le _, ha, fun j hj => absurd hj (Nat.not_lt_zero _)⟩) ?_ fun n => ?_
  · (refine Ent.mk' ?_ ?_ <;> (repeat' (first | exact allSub_zero | exact allTags_nil | refine allSub_succ' ?_ (Ty.sub_any _) | refine allSub_succ' ?_ (Ty.sub_refl _))))
  ·
    have hn1 := n.2.1
    have hn2 := n.2.2.1
    refine t_seq ?_
    refine t_seq ?_
    refine t_draw mixed rfl ?_
    refine mvI rfl ?_
    refine mvS' rfl ?_
    refine r_lenS rfl rfl rfl ?_
    refine r_bin rfl rfl rfl ?_
    refine mvB rfl ?_
    apply r_guard (s := 12) rfl rfl rfl
    · intro hg; apply opT_of; (try have hq := mt_i hg); (refine mvI rfl ?_); refine r_nil ?_; exact rfl
    · exact rfl
    · exact rfl
    apply r_guard (s := 12) rfl rfl rfl
    · intro hg; apply opT_of; (try have hq := mt_i hg); (refine mvI rfl ?_); refine r_nil ?_; exact rfl
    · exact rfl
    · exact rfl
    apply r_guard (s := 12) rfl rfl rfl
    · intro hg; apply opT_strip (s := 13) rfl (by (rw [hg]; rfl)); apply opT_strip (s := 14) rfl (by (rw [hg]; rfl)); apply opT_of; (try have hq := mt_i hg); (refine r_add rfl rfl (by omega) (by omega) ?_); refine r_nil ?_; exact rfl
    · exact rfl
    · exact rfl
    apply r_guard (s := 12) rfl rfl rfl
    · intro hg; apply opT_of; (try have hq := mt_i hg); (refine mvS' rfl ?_); refine r_nil ?_; exact rfl
    · exact rfl
    · exact rfl
    apply r_guard (s := 12) rfl rfl rfl
    · intro hg; apply opT_strip (s := 16) rfl (by (rw [hg]; rfl)); apply opT_of; (try have hq := mt_i hg); (refine r_lenS rfl rfl rfl ?_); refine r_nil ?_; exact rfl
    · exact rfl
    · exact rfl
    apply r_guard (s := 12) rfl rfl rfl
    · intro hg; apply opT_strip (s := 15) rfl (by (rw [hg]; rfl)); apply opT_strip (s := 17) rfl (by (rw [hg]; rfl)); apply opT_of; (try have hq := mt_i hg); (refine r_bin rfl rfl rfl ?_); refine r_nil ?_; exact rfl
    · exact rfl
    · exact rfl
    refine r_and rfl rfl ?_
    refine mvB rfl ?_
    apply r_guard (s := 20) rfl rfl rfl
    · intro hg; apply opT_of; (try have hq := mt_i hg); (refine mvS' rfl ?_); refine r_nil ?_; exact rfl
    · exact rfl
    · exact rfl
    apply r_guard (s := 20) rfl rfl rfl
    · intro hg; apply opT_of; (try have hq := mt_i hg); (refine mvI rfl ?_); refine r_nil ?_; exact rfl
    · exact rfl
    · exact rfl
    apply r_guard (s := 20) rfl rfl rfl
    · intro hg; apply opT_of; (try have hq := mt_i hg); (refine mvI rfl ?_); refine r_nil ?_; exact rfl
    · exact rfl
    · exact rfl
    apply r_guard (s := 20) rfl rfl rfl
    · intro hg; apply opT_strip (s := 22) rfl (by (rw [hg]; rfl)); apply opT_strip (s := 23) rfl (by (rw [hg]; rfl)); apply opT_of; (try have hq := mt_i hg); (refine r_add rfl rfl (by omega) (by omega) ?_); refine r_nil ?_; exact rfl
    · exact rfl
    · exact rfl
    apply r_guard (s := 20) rfl rfl rfl
    · intro hg; apply opT_strip (s := 21) rfl (by (rw [hg]; rfl)); apply opT_strip (s := 24) rfl (by (rw [hg]; rfl)); apply opT_of; (try have hq := mt_i hg); (refine r_idxS (i := a + n.1) rfl rfl rfl rfl hq.2 ?_); refine r_nil ?_; exact rfl
    · exact rfl
    · exact rfl
    apply r_guard (s := 20) rfl rfl rfl
    · intro hg; apply opT_of; (try have hq := mt_i hg); (refine mvS' rfl ?_); refine r_nil ?_; exact rfl
    · exact rfl
    · exact rfl
    apply r_guard (s := 20) rfl rfl rfl
    · intro hg; apply opT_of; (try have hq := mt_i hg); (refine mvI rfl ?_); refine r_nil ?_; exact rfl
    · exact rfl
    · exact rfl
    apply r_guard (s := 20) rfl rfl rfl
    · intro hg; apply opT_strip (s := 26) rfl (by (rw [hg]; rfl)); apply opT_strip (s := 27) rfl (by (rw [hg]; rfl)); apply opT_of; (try have hq := mt_i hg); (refine r_idxS (i := n.1) rfl rfl rfl rfl hq.1 ?_); refine r_nil ?_; exact rfl
    · exact rfl
    · exact rfl
    apply r_guard (s := 20) rfl rfl rfl
    · intro hg; apply opT_strip (s := 25) rfl (by (rw [hg]; rfl)); apply opT_strip (s := 28) rfl (by (rw [hg]; rfl)); apply opT_of; (try have hq := mt_i hg); (refine r_bin rfl rfl rfl ?_); refine r_nil ?_; exact rfl
    · exact rfl
    · exact rfl
    refine r_and rfl rfl ?_
    refine r_nil ?_
    refine ⟨by kernel_rfl, ?_⟩
    refine i_then ?_
    refine t_cond rfl (fun hc1 => ?_) (fun hc1 => ?_)
    ·
      refine t_skip ?_
      refine i_then ?_
      refine t_block ?_
      refine t_region ?_
      refine mvI rfl ?_
      refine r_add rfl rfl (by omega) (by omega) ?_
      refine asI rfl ?_
      refine r_nil ?_
      refine i_block ?_
      refine i_round (⟨n.1 + 1, by have := mt_go hc1; omega, by have := mt_go hc1; omega, fun j hj => by by_cases e : j = n.1; (· rw [e]; exact (mt_go hc1).2.2); (· exact n.2.2.2 j (by omega))⟩) ?_ (by show s.length - (n.1 + 1) < s.length - n.1; have := mt_go hc1; omega)
      (refine Ent.mk' ?_ ?_ <;> (repeat' (first | exact allSub_zero | exact allTags_nil | refine allSub_succ' ?_ (Ty.sub_any _) | refine allSub_succ' ?_ (Ty.sub_refl _))))
      all_goals skip
    ·
      refine t_exit ?_
      refine i_then_exit ?_
      refine i_then_exit ?_
      refine i_block_exit rfl ?_
      refine i_then ?_
      refine t_seq ?_
      refine t_region ?_
      refine mvI rfl ?_
      refine asI rfl ?_
      refine r_nil ?_
      refine i_then ?_
      refine t_ret ?_
      refine i_rp1 rfl rfl ?_
      all_goals skip
      exact ret_eq rfl rfl (congrArg (fun k => Ty.int .i64 ((k : Nat) : Int)) (mt_end n.2 hc1).symm)
end Go.Proofs.YtjjndkenddigiaaGreatDoor

namespace Go.Proofs.YtjjndkenddigiaaGreatDoor
open Go Go.T
def filS (f : BForm) (p : Rdr) (s t : Byt) : List (Byt × Rdr) := (fillR f p t).map fun x => (s ++ x.1, x.2)
def allF (f : BForm) (text : Byt) : List (Byt × Rdr) := fillR f Rdr.new text
theorem fil_all (f : BForm) (text : Byt) : filS f Rdr.new [] text = allF f text := by
  unfold filS allF
  induction fillR f Rdr.new text with
  | nil => rfl
  | cons x l ih => rw [List.map_cons, ih]; rfl
theorem fil_nil {f : BForm} {p : Rdr} {s : Byt} : filS f p s [] = if wholeR p = true then [(s, p)] else [] := by
  unfold filS fillR; split <;> simp
theorem fil_step {f : BForm} {p : Rdr} {s t : Byt} {c : UInt8} (h : c ≠ 63) (hc : c ∈ canR f p) : filS f p s (c :: t) = filS f (nextR f p c) (s ++ [c]) t := by
  unfold filS
  rw [fillR, if_pos h, show stepR f p c = some (nextR f p c) from if_pos hc]
  simp only [List.map_map]
  apply List.map_congr_left
  intro x _; simp
theorem fil_stop {f : BForm} {p : Rdr} {s t : Byt} {c : UInt8} (h : c ≠ 63) (hc : c ∉ canR f p) : filS f p s (c :: t) = [] := by
  unfold filS
  rw [fillR, if_pos h, show stepR f p c = none from if_neg hc]; rfl
theorem fil_torn {f : BForm} {p : Rdr} {s t : Byt} : filS f p s (63 :: t) = (canR f p).flatMap fun d => filS f (nextR f p d) (s ++ [d]) t := by
  unfold filS
  rw [fillR, if_neg (by decide), List.map_flatMap]
  congr 1
  funext d
  rw [List.map_map]
  apply List.map_congr_left
  intro x _; simp
def upF (f : BForm) (p : Rdr) (s t : Byt) (j : Nat) : List (Byt × Rdr) := ((canR f p).take j).flatMap fun d => filS f (nextR f p d) (s ++ [d]) t
theorem up_zero (f : BForm) (p : Rdr) (s t : Byt) : upF f p s t 0 = [] := by simp [upF]
theorem up_succ {f : BForm} {p : Rdr} {s t : Byt} {j : Nat} (h : j < (canR f p).length) : upF f p s t (j + 1) = upF f p s t j ++ filS f (nextR f p (nth (canR f p) j)) (s ++ [nth (canR f p) j]) t := by
  unfold upF; rw [take_nth h, List.flatMap_append]; simp
theorem up_all {f : BForm} {p : Rdr} {s t : Byt} : upF f p s t (canR f p).length = filS f p s (63 :: t) := by
  unfold upF; rw [List.take_length, fil_torn]
theorem up_pre {f : BForm} {p : Rdr} {s t : Byt} {j : Nat} (h : j < (canR f p).length) : upF f p s t j ++ filS f (nextR f p (nth (canR f p) j)) (s ++ [nth (canR f p) j]) t <+: filS f p s (63 :: t) := by
  rw [← up_succ h, fil_torn]
  refine ⟨((canR f p).drop (j + 1)).flatMap fun d => filS f (nextR f p d) (s ++ [d]) t, ?_⟩
  unfold upF
  rw [← List.flatMap_append, List.take_append_drop]
theorem pre_drop {α : Type} {l a b : List α} {k : Nat} (h : a ++ b <+: l.drop k) : b <+: l.drop (k + a.length) := by
  obtain ⟨r, e⟩ := h
  refine ⟨r, ?_⟩
  rw [← List.drop_drop, ← e, List.append_assoc, List.drop_left]
theorem pre_get {α : Type} {l : List α} {x : α} {k : Nat} (h : [x] <+: l.drop k) : l[k]? = some x := by
  obtain ⟨r, e⟩ := h
  have := congrArg List.head? e
  rw [List.head?_drop] at this
  exact this.symm
theorem drop_cons' {a : Byt} {k : Nat} (h : k < a.length) : a.drop k = nth a k :: a.drop (k + 1) := drop_nth h
def rdrPl (f : BForm) (p : Rdr) : List Ty := [Ty.sl I64 f.widths, Ty.int .i64 f.lines, Ty.int .i64 p.rows, Ty.int .i64 p.page, Ty.bool p.begun, Ty.bool p.closed, Ty.int .i64 p.column, Ty.int .i64 p.offset, Ty.int .i64 p.number, Ty.bool p.digits, Ty.sl BRowE p.read, Ty.str (bs p.must)]
def encF (f : BForm) (x : Byt × Rdr) : List Ty := [Ty.str (bs x.1), Ty.pp (rdrPl f x.2)]
theorem fillR_ok {f : BForm} : ∀ (t : Byt) (p : Rdr), RdrOk f p → ∀ x ∈ fillR f p t, RdrOk f x.2 ∧ wholeR x.2 = true ∧ x.1.length = t.length
  | [], p, ho, x, hx => by
    rw [fillR] at hx
    split at hx
    · rename_i hw; rw [List.mem_singleton.1 hx]; exact ⟨ho, hw, rfl⟩
    · cases hx
  | c :: t, p, ho, x, hx => by
    rw [fillR] at hx
    split at hx
    · rename_i hc
      unfold stepR at hx
      split at hx
      · cases hx
      · rename_i q hq
        split at hq
        · rename_i hm
          injection hq with hq
          subst hq
          obtain ⟨y, hy, rfl⟩ := List.mem_map.1 hx
          obtain ⟨h1, h2, h3⟩ := fillR_ok t _ (next_ok ho hm) y hy
          exact ⟨h1, h2, by simp [h3]⟩
        · cases hq
    · obtain ⟨d, hd, hx⟩ := List.mem_flatMap.1 hx
      obtain ⟨y, hy, rfl⟩ := List.mem_map.1 hx
      obtain ⟨h1, h2, h3⟩ := fillR_ok t _ (next_ok ho hd) y hy
      exact ⟨h1, h2, by simp [h3]⟩
end Go.Proofs.YtjjndkenddigiaaGreatDoor

namespace Go.Proofs.YtjjndkenddigiaaGreatDoor
open Go Go.T
inductive Rch (f : BForm) : Rdr → Byt → Rdr → Prop
  | nil (p : Rdr) : Rch f p [] p
  | cons {p q : Rdr} {c : UInt8} {t : Byt} (h : c ∈ canR f p) (h' : Rch f (nextR f p c) t q) : Rch f p (c :: t) q
theorem Rch.split {f : BForm} : ∀ {t u : Byt} {p r : Rdr}, Rch f p (t ++ u) r → ∃ q, Rch f p t q ∧ Rch f q u r
  | [], _, p, _, h => ⟨p, .nil p, h⟩
  | _ :: _, _, _, _, .cons hc h => let ⟨q, h1, h2⟩ := h.split; ⟨q, .cons hc h1, h2⟩
theorem Rch.run {f : BForm} {p q : Rdr} {t : Byt} (h : Rch f p t q) : runR f p t = (t.length, q) := by
  induction h with
  | nil p => rfl
  | @cons p q c t hc _ ih =>
    show (match stepR f p c with | none => (0, p) | some q => ((runR f q t).1 + 1, (runR f q t).2)) = _
    rw [show stepR f p c = some (nextR f p c) from if_pos hc]
    simp only [ih]; rfl
theorem Rch.ok {f : BForm} {p q : Rdr} {t : Byt} (h : Rch f p t q) (ho : RdrOk f p) : RdrOk f q := by
  induction h with
  | nil p => exact ho
  | cons hc _ ih => exact ih (next_ok ho hc)
theorem pushN_rows {rows : List BRow} {nums : List Int} {struck : Bool} {n : Int} : pushN (rows ++ [⟨nums, struck⟩]) n = rows ++ [⟨nums ++ [n], struck⟩] := by
  unfold pushN
  have e : (rows ++ [(⟨nums, struck⟩ : BRow)]).length - 1 = rows.length := by simp
  rw [e, nth_snoc_new rfl, List.take_left]
theorem fig_mem {f : BForm} {p : Rdr} {c : UInt8} : c ∈ figC f p ↔ (c = 32 ∧ p.digits = false ∧ lastB f p = false) ∨ ∃ d, d < 10 ∧ (0 < d ∨ p.digits = true ∨ lastB f p = true) ∧ c = UInt8.ofNat (48 + d) := by
  rw [figC_eq, List.mem_append]
  refine or_congr ?_ ?_
  · unfold blkB
    cases p.digits <;> cases lastB f p <;> simp
  · unfold figs ctnB
    simp only [List.mem_map, List.mem_filter, List.mem_range, Bool.or_eq_true, decide_eq_true_eq]
    exact ⟨fun ⟨d, ⟨h1, h2⟩, e⟩ => ⟨d, h1, by rcases h2 with h | h; exact .inl h; exact .inr h, e.symm⟩, fun ⟨d, h1, h2, e⟩ => ⟨d, ⟨h1, by rcases h2 with h | h; exact .inl h; exact .inr h⟩, e.symm⟩⟩
end Go.Proofs.YtjjndkenddigiaaGreatDoor

namespace Go.Proofs.YtjjndkenddigiaaGreatDoor
open Go Go.T
def seg (t : Byt) (a k : Nat) : Byt := (t.drop a).take k
theorem seg_succ {t : Byt} {a k : Nat} (h : a + k < t.length) : seg t a (k + 1) = seg t a k ++ [nth t (a + k)] := by
  unfold seg
  rw [take_nth (by rw [List.length_drop]; omega)]
  congr 2
  unfold nth; rw [List.getD_eq_getElem?_getD, List.getD_eq_getElem?_getD, List.getElem?_drop]
def numK (b : Byt) : Int := b.foldl (fun n x => if x = 32 then n else 10 * n + ((x.toNat : Int) - 48)) 0
def digK (b : Byt) : Bool := b.any fun x => !decide (x = 32)
theorem numK_snoc (b : Byt) (x : UInt8) : numK (b ++ [x]) = if x = 32 then numK b else 10 * numK b + ((x.toNat : Int) - 48) := by unfold numK; rw [List.foldl_append]; rfl
theorem digK_snoc (b : Byt) (x : UInt8) : digK (b ++ [x]) = (digK b || !decide (x = 32)) := by unfold digK; simp
def rowP (R P : Int) (l : List BRow) (s : Bool) (nums : List Int) (c k : Nat) (n : Int) (d : Bool) : Rdr := ⟨R, P, true, false, c, k, n, d, l ++ [⟨nums, s⟩], []⟩
def barP (f : BForm) (R P : Int) (l : List BRow) (s : Bool) (nums : List Int) (c : Nat) : Rdr :=
  if c = f.widths.length then ⟨R + 1, P + 1, false, false, c, 0, 0, false, l ++ [⟨nums, s⟩], [124, letB f ⟨nums, s⟩, 10]⟩ else ⟨R, P, true, false, c, 0, 0, false, l ++ [⟨nums, s⟩], [124]⟩
def colP (f : BForm) (R P : Int) (l : List BRow) (s : Bool) (nums : List Int) (c : Nat) : Rdr :=
  if c = f.widths.length then ⟨R + 1, P + 1, false, false, c, 0, 0, false, l ++ [⟨nums, s⟩], [letB f ⟨nums, s⟩, 10]⟩ else rowP R P l s nums c 0 0 false
theorem acc_le {f : BForm} {t : Byt} {j k : Nat} (h : AccK f t k) (hj : j ≤ k) : AccK f t j := fun i hi => h i (by omega)
theorem row_in {f : BForm} {R P : Int} {l : List BRow} {s : Bool} {nums : List Int} {c k : Nat} {n : Int} {d : Bool} {x : UInt8} (h : (k : Int) + 1 < nth f.widths c) :
    nextR f (rowP R P l s nums c k n d) x = rowP R P l s nums c (k + 1) (if x = 32 then n else 10 * n + ((x.toNat : Int) - 48)) (d || !decide (x = 32)) := by
  rw [next_f rfl rfl]
  unfold figR
  have hw : (rowP R P l s nums c k n d).offset + 1 < wid f (rowP R P l s nums c k n d) := h
  simp only [if_pos hw]
  unfold rowP
  by_cases e : x = 32 <;> simp [e]
theorem row_out {f : BForm} {R P : Int} {l : List BRow} {s : Bool} {nums : List Int} {c k : Nat} {n : Int} {d : Bool} {x : UInt8} (h : (k : Int) + 1 = nth f.widths c) :
    nextR f (rowP R P l s nums c k n d) x = barP f R P l s (nums ++ [if x = 32 then n else 10 * n + ((x.toNat : Int) - 48)]) (c + 1) := by
  rw [next_f rfl rfl]
  unfold figR barP
  have hw : ¬ (rowP R P l s nums c k n d).offset + 1 < wid f (rowP R P l s nums c k n d) := fun (h2 : (k : Int) + 1 < nth f.widths c) => by omega
  have hp : ∀ m : Int, pushN (rowP R P l s nums c k n d).read m = l ++ [⟨nums ++ [m], s⟩] := fun m => pushN_rows
  have hl : ∀ r : BRow, nth (l ++ [r]) ((l ++ [r]).length - 1) = r := fun r => by
    rw [show (l ++ [r]).length - 1 = l.length by simp]; exact nth_snoc_new rfl
  simp only [if_neg hw, hp, hl]
  by_cases e : x = 32
  · by_cases hc : (c : Int) + 1 = f.widths.length
    · rw [if_pos (show (rowP R P l s nums c k n d).column + 1 = f.widths.length from hc), if_pos (show c + 1 = f.widths.length by omega)]
      simp [rowP, e]
    · rw [if_neg (show ¬ (rowP R P l s nums c k n d).column + 1 = f.widths.length from hc), if_neg (show ¬ c + 1 = f.widths.length by omega)]
      simp [rowP, e]
  · by_cases hc : (c : Int) + 1 = f.widths.length
    · rw [if_pos (show (rowP R P l s nums c k n d).column + 1 = f.widths.length from hc), if_pos (show c + 1 = f.widths.length by omega)]
      simp [rowP, e]
    · rw [if_neg (show ¬ (rowP R P l s nums c k n d).column + 1 = f.widths.length from hc), if_neg (show ¬ c + 1 = f.widths.length by omega)]
      simp [rowP, e]
section
variable {f : BForm} {t : Byt} {a : Nat} {R P : Int} {l : List BRow} {s : Bool} {nums : List Int} {c : Nat}
theorem col_in (h0 : rdK f t a = rowP R P l s nums c 0 0 false) : ∀ k : Nat, (k : Int) < nth f.widths c → a + k ≤ t.length → rdK f t (a + k) = rowP R P l s nums c k (numK (seg t a k)) (digK (seg t a k))
  | 0, _, _ => h0
  | k + 1, hk, hl => by
    rw [← Nat.add_assoc, rdK_succ (by omega), col_in h0 k (by omega) (by omega), row_in (by omega), seg_succ (by omega), numK_snoc, digK_snoc]
theorem col_end (h0 : rdK f t a = rowP R P l s nums c 0 0 false) (hw : 1 ≤ nth f.widths c) (hl : a + (nth f.widths c).toNat ≤ t.length) :
    rdK f t (a + (nth f.widths c).toNat) = barP f R P l s (nums ++ [numK (seg t a (nth f.widths c).toNat)]) (c + 1) := by
  obtain ⟨k, hk⟩ : ∃ k, (nth f.widths c).toNat = k + 1 := ⟨(nth f.widths c).toNat - 1, by omega⟩
  rw [hk] at hl ⊢
  rw [← Nat.add_assoc, rdK_succ (by omega), col_in h0 k (by omega) (by omega), row_out (by omega), seg_succ (by omega), numK_snoc]
theorem bar_can : canR f (barP f R P l s nums c) = [124] := by unfold barP; split <;> rfl
theorem bar_next {x : UInt8} : nextR f (barP f R P l s nums c) x = colP f R P l s nums c := by unfold barP colP rowP; split <;> rfl
theorem bar_not : wholeR (barP f R P l s nums c) = false := by unfold barP; split <;> rfl
def colLen (f : BForm) : Nat → Nat
  | 0 => 0
  | c + 1 => colLen f c + (nth f.widths c).toNat + 1
def numsK (f : BForm) (t : Byt) (a c : Nat) : List Int := (List.range c).map fun j => numK (seg t (a + colLen f j) (nth f.widths j).toNat)
theorem numsK_succ : numsK f t a (c + 1) = numsK f t a c ++ [numK (seg t (a + colLen f c) (nth f.widths c).toNat)] := by unfold numsK; rw [List.range_succ, List.map_append]; rfl
theorem numsK_len : (numsK f t a c).length = c := by simp [numsK]
theorem colLen_le {b : Nat} (h : c ≤ b) : colLen f c ≤ colLen f b := by
  induction b with
  | zero => rw [show c = 0 by omega]; exact Nat.le_refl _
  | succ b ih =>
    by_cases e : c = b + 1
    · rw [e]; exact Nat.le_refl _
    · have := ih (by omega); show colLen f c ≤ colLen f b + _ + 1; omega
theorem cols_at (hf : FormOk f) (h0 : rdK f t a = rowP R P l s [] 0 0 0 false) : ∀ c : Nat, c ≤ f.widths.length → a + colLen f c ≤ t.length → rdK f t (a + colLen f c) = colP f R P l s (numsK f t a c) c
  | 0, _, _ => by
    show rdK f t a = _
    unfold colP
    rw [if_neg (by have := hf.n1; omega), h0]; rfl
  | c + 1, hc, hl => by
    have e : colLen f (c + 1) = colLen f c + (nth f.widths c).toNat + 1 := rfl
    have hw := nth_wid hf (show c < f.widths.length by omega)
    have ih := cols_at hf h0 c (by omega) (by omega)
    unfold colP at ih
    rw [if_neg (by omega)] at ih
    rw [e, ← Nat.add_assoc, rdK_succ (by omega), ← Nat.add_assoc, col_end ih hw.1 (by omega), bar_next, numsK_succ]
theorem col_head (hf : FormOk f) (h0 : rdK f t a = rowP R P l s [] 0 0 0 false) (hc : c < f.widths.length) (hl : a + colLen f c ≤ t.length) : rdK f t (a + colLen f c) = rowP R P l s (numsK f t a c) c 0 0 false := by
  rw [cols_at hf h0 c (by omega) hl]; unfold colP; rw [if_neg (by omega)]
theorem row_can {k : Nat} {n : Int} {d : Bool} {x : UInt8} : x ∈ canR f (rowP R P l s nums c k n d) ↔ (x = 32 ∧ d = false ∧ ¬ (k : Int) = nth f.widths c - 1) ∨ ((48 ≤ x.toNat ∧ x.toNat ≤ 57) ∧ (48 < x.toNat ∨ d = true ∨ (k : Int) = nth f.widths c - 1)) := by
  rw [show canR f (rowP R P l s nums c k n d) = figC f (rowP R P l s nums c k n d) from can_begun rfl rfl, fig_mem]
  have hd : (rowP R P l s nums c k n d).digits = d := rfl
  have hl : lastB f (rowP R P l s nums c k n d) = decide ((k : Int) = nth f.widths c - 1) := rfl
  rw [hd, hl]
  simp only [decide_eq_false_iff_not, decide_eq_true_eq]
  refine or_congr Iff.rfl ⟨?_, ?_⟩
  · rintro ⟨m, hm, h, rfl⟩
    rw [dig_toNat hm]
    exact ⟨⟨by omega, by omega⟩, h.imp (fun h => by omega) id⟩
  · rintro ⟨⟨h1, h2⟩, h⟩
    refine ⟨x.toNat - 48, by omega, h.imp (fun h => by omega) id, ?_⟩
    apply UInt8.toNat_inj.1
    rw [dig_toNat (by omega)]; omega
theorem row_not {k : Nat} {n : Int} {d : Bool} : wholeR (rowP R P l s nums c k n d) = false := rfl
end
theorem acc_run {f : BForm} {t : Byt} {k : Nat} (hk : k ≤ t.length) (h : AccK f t k) : k ≤ runN f t := by
  rcases Nat.lt_or_ge (runN f t) k with hlt | hge
  · exfalso
    have key : ∀ (t : Byt) (p : Rdr), (runR f p t).1 < t.length → nth t (runR f p t).1 ∉ canR f ((t.take (runR f p t).1).foldl (nextR f) p) := by
      intro t
      induction t with
      | nil => intro p h; simp at h
      | cons c t ih =>
        intro p h
        by_cases hc : c ∈ canR f p
        · have e : runR f p (c :: t) = ((runR f (nextR f p c) t).1 + 1, (runR f (nextR f p c) t).2) := by
            show (match stepR f p c with | none => (0, p) | some q => ((runR f q t).1 + 1, (runR f q t).2)) = _
            rw [show stepR f p c = some (nextR f p c) from if_pos hc]
          rw [e] at h ⊢
          exact ih (nextR f p c) (by simpa using h)
        · have e : runR f p (c :: t) = (0, p) := by
            show (match stepR f p c with | none => (0, p) | some q => ((runR f q t).1 + 1, (runR f q t).2)) = _
            rw [show stepR f p c = none from if_neg hc]
          rw [e]; exact hc
    exact key t Rdr.new (by show runN f t < _; omega) (h (runN f t) hlt)
  · exact hge
theorem run_acc {f : BForm} {t : Byt} : AccK f t (runN f t) := by
  have key : ∀ (t : Byt) (p : Rdr) (j : Nat), j < (runR f p t).1 → nth t j ∈ canR f ((t.take j).foldl (nextR f) p) := by
    intro t
    induction t with
    | nil => intro p j h; exact absurd h (Nat.not_lt_zero _)
    | cons c t ih =>
      intro p j h
      by_cases hc : c ∈ canR f p
      · have e : runR f p (c :: t) = ((runR f (nextR f p c) t).1 + 1, (runR f (nextR f p c) t).2) := by
          show (match stepR f p c with | none => (0, p) | some q => ((runR f q t).1 + 1, (runR f q t).2)) = _
          rw [show stepR f p c = some (nextR f p c) from if_pos hc]
        rw [e] at h
        cases j with
        | zero => exact hc
        | succ j => exact ih (nextR f p c) j (by simpa using h)
      · have e : runR f p (c :: t) = (0, p) := by
          show (match stepR f p c with | none => (0, p) | some q => ((runR f q t).1 + 1, (runR f q t).2)) = _
          rw [show stepR f p c = none from if_neg hc]
        rw [e] at h; exact absurd h (Nat.not_lt_zero _)
  exact fun j hj => key t Rdr.new j hj
theorem runN_len {f : BForm} {t : Byt} : runN f t ≤ t.length := runN_le t Rdr.new
theorem must_at {f : BForm} {t : Byt} {q : Rdr} : ∀ (n : Nat) {a : Nat} {m : Byt}, rdK f t a = { q with must := m } → AccK f t a → a + n ≤ t.length → n ≤ m.length → (∀ j, j < n → nth t (a + j) = nth m j) → AccK f t (a + n) ∧ rdK f t (a + n) = { q with must := m.drop n }
  | 0, _, _, h, ha, _, _, _ => ⟨ha, h⟩
  | n + 1, a, m, h, ha, hl, hm, he => by
    obtain ⟨h1, h2⟩ := must_at n h ha (by omega) (by omega) fun j hj => he j (by omega)
    have hd : m.drop n = nth m n :: m.drop (n + 1) := drop_nth (by omega)
    have hc : nth t (a + n) ∈ canR f (rdK f t (a + n)) := by
      rw [h2, hd, he n (by omega)]; exact List.mem_singleton.2 rfl
    refine ⟨accK_succ h1 hc, ?_⟩
    rw [← Nat.add_assoc, rdK_succ (by omega), h2, hd]; rfl
theorem must_can {f : BForm} {q : Rdr} {m : Byt} {n : Nat} (h : n < m.length) : canR f { q with must := m.drop n } = [nth m n] := by
  rw [drop_nth h]; rfl
theorem must_not {q : Rdr} {m : Byt} {n : Nat} (h : n < m.length) : wholeR { q with must := m.drop n } = false := by
  rw [drop_nth h]; unfold wholeR; simp
end Go.Proofs.YtjjndkenddigiaaGreatDoor

namespace Go.Proofs.YtjjndkenddigiaaGreatDoor
open Go Go.T
set_option maxHeartbeats 4000000
theorem mat_le : ∀ (t s : Byt), matN t s ≤ t.length ∧ matN t s ≤ s.length ∧ (∀ j, j < matN t s → nth t j = nth s j) ∧ (matN t s < s.length → matN t s = t.length ∨ nth t (matN t s) ≠ nth s (matN t s))
  | [], s => by unfold matN; exact ⟨Nat.zero_le _, Nat.zero_le _, fun j h => absurd h (Nat.not_lt_zero _), fun _ => .inl rfl⟩
  | x :: t, [] => by unfold matN; exact ⟨Nat.zero_le _, Nat.zero_le _, fun j h => absurd h (Nat.not_lt_zero _), fun h => absurd h (Nat.not_lt_zero _)⟩
  | x :: t, y :: s => by
    obtain ⟨h1, h2, h3, h4⟩ := mat_le t s
    unfold matN
    split
    · rename_i e
      refine ⟨Nat.succ_le_succ h1, Nat.succ_le_succ h2, fun j hj => ?_, fun h => ?_⟩
      · cases j with
        | zero => exact e
        | succ j => exact h3 j (by omega)
      · exact (h4 (by simpa using h)).imp (fun h => by simp [h]) (fun h => h)
    · rename_i e
      exact ⟨Nat.zero_le _, Nat.zero_le _, fun j h => absurd h (Nat.not_lt_zero _), fun _ => .inr e⟩
def prI (f : BForm) (t : Byt) : Bool := decide (runN f t = t.length) && wholeR (runP f t)
def prT (f : BForm) (t : Byt) : Ty := Ty.agg [Ty.when (prI f t) (Ty.sl I64 f.widths), Ty.when (prI f t) (Ty.int .i64 f.lines), Ty.when (prI f t) (Ty.sl BRowE (runP f t).read)]
def rrN (f : BForm) (t : Byt) (a : Nat) : Nat := min (runN f t) (a + colLen f f.widths.length)
def rrI (f : BForm) (t : Byt) (a : Nat) : Bool := decide (a + colLen f f.widths.length ≤ runN f t)
def rrT (f : BForm) (t : Byt) (a : Nat) (s : Bool) : Ty := Ty.agg [Ty.when (rrI f t a) (Ty.sl I64 (numsK f t a f.widths.length)), Ty.when (rrI f t a) (Ty.bool s)]
theorem ret_whenF {s t : Ty} (ho : s.one = true) : RetSub s (Ty.when false t) := fun _ _ _ _ hd => ⟨s.isOne ho hd, fun h => by cases h⟩
theorem ret_whenT {s t : Ty} (ho : s.one = true) (h : RetSub s t) : RetSub s (Ty.when true t) := fun w M v wf hd => ⟨s.isOne ho hd, fun _ => h w M v wf hd⟩
theorem rets_n : RetSubs [] [] := trivial
theorem rets_c {s t : Ty} {l l' : List Ty} (h : RetSub s t) (h' : RetSubs l l') : RetSubs (s :: l) (t :: l') := ⟨h, h'⟩
theorem rr_stop {f : BForm} {t : Byt} {a m : Nat} {s : Bool} (h : runN f t = m) (hm : m < a + colLen f f.widths.length) : rrT f t a s = Ty.agg [Ty.when false (Ty.sl I64 (numsK f t a f.widths.length)), Ty.when false (Ty.bool s)] ∧ rrN f t a = m ∧ rrI f t a = false := by
  have e : rrI f t a = false := decide_eq_false (by omega)
  exact ⟨by unfold rrT; rw [e], by unfold rrN; omega, e⟩
theorem rr_full {f : BForm} {t : Byt} {a : Nat} {s : Bool} (hl : a + colLen f f.widths.length ≤ t.length) (h : AccK f t (a + colLen f f.widths.length)) : rrT f t a s = Ty.agg [Ty.when true (Ty.sl I64 (numsK f t a f.widths.length)), Ty.when true (Ty.bool s)] ∧ rrN f t a = a + colLen f f.widths.length ∧ rrI f t a = true := by
  have hr := acc_run hl h
  have e : rrI f t a = true := decide_eq_true hr
  exact ⟨by unfold rrT; rw [e], by unfold rrN; omega, e⟩
theorem rr_c1 {x : UInt8} {d l : Bool} (h : ((decide ((x.toNat : Int) = 32) && !d) && !l) = true) : x = 32 ∧ d = false ∧ l = false := by
  simp only [Bool.and_eq_true, decide_eq_true_eq, Bool.not_eq_true'] at h
  exact ⟨(u8_eq (n := 32) (by decide)).1 h.1.1, h.1.2, h.2⟩
theorem rr_c2 {x : UInt8} {d l : Bool} (h : ((decide ((x.toNat : Int) ≥ 48) && decide ((x.toNat : Int) ≤ 57)) && ((decide ((x.toNat : Int) > 48) || d) || l)) = true) : (48 ≤ x.toNat ∧ x.toNat ≤ 57) ∧ (48 < x.toNat ∨ d = true ∨ l = true) := by
  simp only [Bool.and_eq_true, Bool.or_eq_true, decide_eq_true_eq] at h
  obtain ⟨⟨h1, h2⟩, h3⟩ := h
  refine ⟨⟨by omega, by omega⟩, ?_⟩
  rcases h3 with (h | h) | h
  · exact .inl (by omega)
  · exact .inr (.inl h)
  · exact .inr (.inr h)
theorem rr_no {f : BForm} {R P : Int} {l : List BRow} {s : Bool} {nums : List Int} {c k : Nat} {n : Int} {d : Bool} {x : UInt8} (h1 : ((decide ((x.toNat : Int) = 32) && !d) && !decide ((k : Int) = nth f.widths c - 1)) = false) (h2 : ((decide ((x.toNat : Int) ≥ 48) && decide ((x.toNat : Int) ≤ 57)) && ((decide ((x.toNat : Int) > 48) || d) || decide ((k : Int) = nth f.widths c - 1))) = false) :
    ¬ x ∈ canR f (rowP R P l s nums c k n d) := by
  rw [row_can]
  rintro (⟨rfl, rfl, h⟩ | ⟨⟨h3, h4⟩, h⟩)
  · rw [decide_eq_false h] at h1; exact absurd h1 (by decide)
  · have e1 : decide ((x.toNat : Int) ≥ 48) = true := decide_eq_true (by omega)
    have e2 : decide ((x.toNat : Int) ≤ 57) = true := decide_eq_true (by omega)
    rw [e1, e2] at h2
    simp only [Bool.and_true, Bool.true_and, Bool.or_eq_false_iff, decide_eq_false_iff_not] at h2
    rcases h with h | h | h
    · exact h2.1.1 (by omega)
    · rw [h] at h2; exact absurd h2.1.2 (by decide)
    · exact h2.2 h
theorem rr_bar {f : BForm} {t : Byt} {m : Nat} {R P : Int} {l : List BRow} {s : Bool} {nums : List Int} {c : Nat} (hst : rdK f t m = barP f R P l s nums c) (hm : m ≤ t.length) (ha : AccK f t m) (h : (decide ((m : Int) = (t.length : Int)) || !decide (((nth t m).toNat : Int) = 124)) = true) : runN f t = m := by
  simp only [Bool.or_eq_true, decide_eq_true_eq, Bool.not_eq_true', decide_eq_false_iff_not] at h
  rcases h with h | h
  · exact (run_end hm ha (by omega)).1
  · refine (run_stop hm ha fun hc => h ?_).1
    rw [hst, bar_can, List.mem_singleton] at hc
    rw [hc]; rfl
theorem rr_pass {f : BForm} {t : Byt} {m : Nat} {R P : Int} {l : List BRow} {s : Bool} {nums : List Int} {c : Nat} (hst : rdK f t m = barP f R P l s nums c) (hm : m ≤ t.length) (ha : AccK f t m) (h : (decide ((m : Int) = (t.length : Int)) || !decide (((nth t m).toNat : Int) = 124)) = false) : m + 1 ≤ t.length ∧ AccK f t (m + 1) := by
  simp only [Bool.or_eq_false_iff, decide_eq_false_iff_not, Bool.not_eq_false', decide_eq_true_eq] at h
  refine ⟨by omega, accK_succ ha ?_⟩
  rw [hst, bar_can, List.mem_singleton]
  exact (u8_eq (n := 124) (by decide)).1 h.2
theorem num_32 {b : Byt} {x : UInt8} (h : x = 32) : numK b = numK (b ++ [x]) ∧ digK b = digK (b ++ [x]) := by
  rw [numK_snoc, digK_snoc, if_pos h, h]; simp
theorem num_dg {b : Byt} {x : UInt8} (h : 48 ≤ x.toNat ∧ x.toNat ≤ 57) : 10 * numK b + (x.toNat : Int) - 48 = numK (b ++ [x]) ∧ true = digK (b ++ [x]) := by
  have hx : ¬ x = 32 := fun e => by subst e; have := h.1; exact absurd this (by decide)
  rw [numK_snoc, digK_snoc, if_neg hx]; simp [hx]; omega
theorem pubTy_rowE {A : As} {α : Type} {E : El α} {T tg : Nat} {xs ys : List α} (h : xs = ys) : PubTy A tg (.row E T tg xs) (.sl E ys) := h ▸ pubTy_row
theorem colLen_0 {f : BForm} : colLen f 0 = 0 := rfl
theorem col_0 {f : BForm} {t : Byt} {a : Nat} (h : a ≤ t.length) : a + colLen f 0 ≤ t.length := h
theorem acc_0 {f : BForm} {t : Byt} {a : Nat} (h : AccK f t a) : AccK f t (a + colLen f 0) := h
theorem numsK_0 {f : BForm} {t : Byt} {a : Nat} : numsK f t a 0 = [] := rfl
theorem numK_0 {t : Byt} {a : Nat} : 0 = numK (seg t a 0) := rfl
theorem digK_0 {t : Byt} {a : Nat} : false = digK (seg t a 0) := rfl
theorem colLen_s {f : BForm} {c : Nat} : colLen f (c + 1) = colLen f c + (nth f.widths c).toNat + 1 := rfl
theorem num_0 {f : BForm} {R P : Int} {l : List BRow} {s : Bool} {nums : List Int} {c k : Nat} {n : Int} {d : Bool} (h : RdrOk f (rowP R P l s nums c k n d)) : 0 ≤ n := h.n0
theorem num_1 {f : BForm} {R P : Int} {l : List BRow} {s : Bool} {nums : List Int} {c k : Nat} {n : Int} {d : Bool} (h : RdrOk f (rowP R P l s nums c k n d)) : n < ten (k : Int) := (h.beg rfl).2.2.1
attribute [local irreducible] rrT rrN rrI numK digK seg colLen numsK rowP barP colP runN rdK canR
attribute [local irreducible] dInt dBool dSl dPp dPtr dAgg dTup dClo dAny dEx dStr dGd dCells dVec dVs dRow dOp nth Tri Into TOps Ctr bodyPost Exit.then Exit.inBlock Code.wp Code.wpIn dWhen dPa dArr dMp dMap CtrG keepPost iterPost bodyPostM roundQ
set_option maxRecDepth 100000 in
theorem c_readRow (f : BForm) (hf : FormOk f) (t : Byt) (ht : t.length ≤ 1000000) (a : Nat) (s : Bool) (R P : Int) (l : List BRow) (ha : a ≤ t.length) (h0 : rdK f t a = rowP R P l s [] 0 0 0 false) (hac : AccK f t a) : Ctr Tryz.prog 79 [frmT f, Ty.str (bs t), Ty.int .i64 (a : Nat), Ty.bool s] (Ty.tup [rrT f t a s, Ty.int .i64 (rrN f t a : Nat), Ty.bool (rrI f t a)]) := by
  refine fn_intro Tryz.func79 rfl (by decide) Tryz.ntmps79 (by exact Nat.le_of_ble_eq_true rfl) fun w0 M0 => ?_
  have hfw := hf.n2
  refine t_seq ?_
  refine t_region ?_
  refine r_box_agg rfl ?_
  refine r_alloc rfl (by exact List.cons_ne_nil _ _) rfl ?_
  refine asI rfl ?_
  refine asB rfl ?_
  refine r_nil ?_
  refine i_then ?_
  refine t_seq ?_
  refine t_region ?_
  refine mvB rfl ?_
  refine r_build rfl rfl (by exact List.cons_ne_nil _ _) rfl (by repeat (first | exact (Parts.nil : Parts _ _ [] _) | (show Parts _ _ ((_, _) :: _) _; apply Parts.one; (· exact (rfl : _ = Ty.bool _)); (· exact rfl)))) (by exact (rfl : _ = some [_, _])) ?_
  refine r_alloc rfl (by exact List.cons_ne_nil _ _) rfl ?_
  refine r_storeN rfl rfl (by decide) rfl rfl rfl rfl rfl rfl ?_
  refine r_nil ?_
  refine i_then ?_
  refine t_seq ?_
  refine t_seq ?_
  refine t_region ?_
  refine asI rfl ?_
  refine r_nil ?_
  refine i_then ?_
  refine t_block ?_
  refine t_loop (fun (c : {c : Nat // c ≤ f.widths.length ∧ a + colLen f c ≤ t.length ∧ AccK f t (a + colLen f c)}) => live [(1, Ty.str (bs t)), (2, Ty.int .i64 ((a + colLen f c.1 : Nat) : Int)), (4, Ty.pp (frmTys f)), (8, Ty.ptr 9 0), (11, Ty.ptr 12 0), (12, Ty.int .i64 (c.1 : Nat))] [(9, Cont.cells 67 [Ty.ex (.slice none 0 0), Ty.bool false]), (12, Cont.cells 67 [Ty.row I64 3 110 (numsK f t a c.1), Ty.bool s])]) (fun c => f.widths.length - c.1) (⟨0, Nat.zero_le _, col_0 ha, acc_0 hac⟩) ?_ fun c => ?_
  · (refine Ent.mk' ?_ ?_ <;> (repeat' (first | exact allSub_zero | exact allTags_nil | exact subs_nil | refine allSub_succ' ?_ (Ty.sub_any _) | refine allSub_succ' ?_ (Ty.sub_refl _) | refine allTags_cons rfl (Cont.sub_refl _) ?_ | refine allTags_cons rfl (Cont.sub_subs ?_) ?_ | refine subs_cons ?_ (Ty.sub_refl _) | refine subs_cons ?_ ?_ | refine allSub_succ' ?_ ?_)))
    all_goals first | exact Ty.sub_int (congrArg (fun m : Nat => ((a + m : Nat) : Int)) colLen_0).symm | (dsimp only; rw [numsK_0]; exact Ty.nil_row)
  ·
    have hc0 := c.2.1
    have hc1' := c.2.2.1
    have hnl := numsK_len (f := f) (t := t) (a := a) (c := c.1)
    refine t_seq ?_
    refine t_seq ?_
    refine t_region ?_
    refine mvI rfl ?_
    refine r_field_pp rfl rfl rfl rfl rfl (by decide) ?_
    refine r_load_pp rfl rfl rfl rfl ?_
    refine r_len rfl rfl rfl ?_
    refine r_bin rfl rfl rfl ?_
    refine r_nil ?_
    refine i_then ?_
    refine t_cond_dec rfl (fun hc1 => ?_) (fun hc1 => ?_)
    ·
      refine t_skip ?_
      refine i_then ?_
      refine t_seq ?_
      refine t_block ?_
      refine t_seq ?_
      have hcw : c.1 < f.widths.length := by omega
      have hst := col_head hf h0 hcw c.2.2.1
      have hwid := nth_wid hf hcw
      have hcl : colLen f (c.1 + 1) ≤ colLen f f.widths.length := colLen_le hcw
      have hce : colLen f (c.1 + 1) = colLen f c.1 + (nth f.widths c.1).toNat + 1 := colLen_s
      refine t_region ?_
      refine asI rfl ?_
      refine asB rfl ?_
      refine r_nil ?_
      refine i_then ?_
      refine t_seq ?_
      refine t_seq ?_
      refine t_region ?_
      refine asI rfl ?_
      refine r_nil ?_
      refine i_then ?_
      refine t_block ?_
      refine t_loop (fun (k : {k : Nat // (k : Int) ≤ nth f.widths c.1 ∧ a + colLen f c.1 + k ≤ t.length ∧ AccK f t (a + colLen f c.1 + k)}) => live [(1, Ty.str (bs t)), (2, Ty.int .i64 ((a + colLen f c.1 + k.1 : Nat) : Int)), (4, Ty.pp (frmTys f)), (8, Ty.ptr 9 0), (11, Ty.ptr 12 0), (12, Ty.int .i64 (c.1 : Nat)), (13, Ty.int .i64 (numK (seg t (a + colLen f c.1) k.1))), (14, Ty.bool (digK (seg t (a + colLen f c.1) k.1))), (15, Ty.int .i64 (k.1 : Nat))] [(9, Cont.cells 67 [Ty.ex (.slice none 0 0), Ty.bool false]), (12, Cont.cells 67 [Ty.row I64 3 110 (numsK f t a c.1), Ty.bool s])]) (fun k => (nth f.widths c.1).toNat - k.1) (⟨0, by omega, c.2.2.1, c.2.2.2⟩) ?_ fun k => ?_
      · (refine Ent.mk' ?_ ?_ <;> (repeat' (first | exact allSub_zero | exact allTags_nil | refine allSub_succ' ?_ (Ty.sub_any _) | refine allSub_succ' ?_ (Ty.sub_refl _) | refine allTags_cons rfl (Cont.sub_refl _) ?_ | refine allSub_succ' ?_ ?_)))
        all_goals first | exact Ty.sub_int numK_0 | exact Ty.sub_bool digK_0
      ·
        have hk0 := k.2.1
        have hk1 := k.2.2.1
        refine t_seq ?_
        refine t_seq ?_
        refine t_region ?_
        refine mvI rfl ?_
        refine r_field_pp rfl rfl rfl rfl rfl (by decide) ?_
        refine r_load_pp rfl rfl rfl rfl ?_
        refine mvI rfl ?_
        refine r_index_slN rfl rfl rfl rfl rfl rfl (by omega) ?_
        refine r_load_pp rfl rfl rfl rfl ?_
        refine r_bin rfl rfl rfl ?_
        refine r_nil ?_
        refine i_then ?_
        refine t_cond_dec rfl (fun hc2 => ?_) (fun hc2 => ?_)
        ·
          refine t_skip ?_
          refine i_then ?_
          refine t_seq ?_
          refine t_block ?_
          refine t_seq ?_
          refine t_seq ?_
          have hkw : (k.1 : Int) < nth f.widths c.1 := by omega
          have hin := col_in hst k.1 hkw k.2.2.1
          have hok := rdK_ok hf k.2.2.1 k.2.2.2
          rw [hin] at hok
          have hn0 := num_0 hok
          have hn1 := num_1 hok
          have hten := ten_small (k := k.1) (by omega)
          refine t_region ?_
          refine mvI rfl ?_
          refine mvS' rfl ?_
          refine r_lenS rfl rfl rfl ?_
          refine r_bin rfl rfl rfl ?_
          refine r_nil ?_
          refine i_then ?_
          refine t_cond_dec rfl (fun hc3 => ?_) (fun hc3 => ?_)
          ·
            refine t_seq ?_
            have hrr := rr_stop (s := s) (run_end (f := f) k.2.2.1 k.2.2.2 (by omega)).1 (show a + colLen f c.1 + k.1 < a + colLen f f.widths.length by omega)
            refine t_region ?_
            refine r_load_ptrN rfl rfl (by decide) rfl rfl (by exact Nat.le_of_ble_eq_true rfl) ?_
            refine mvI rfl ?_
            refine r_storeN rfl rfl (by decide) rfl rfl rfl rfl rfl rfl ?_
            refine asI rfl ?_
            refine asB rfl ?_
            refine r_nil ?_
            refine i_then ?_
            refine t_ret ?_
            refine i_then_ret ?_
            refine i_block_ret ?_
            refine i_then_ret ?_
            refine i_then_ret ?_
            refine i_block_ret ?_
            refine i_then_ret ?_
            refine i_block_ret ?_
            refine i_then_ret ?_
            refine i_then_ret ?_
            refine i_block_ret ?_
            refine i_then_ret ?_
            refine i_rcell3 rfl rfl rfl rfl rfl rfl (by decide) rfl rfl rfl ?_ ?_ ?_
            all_goals skip
            all_goals first | (rw [hrr.1]; exact ret_agg (rets_c (ret_whenF rfl) (rets_c (ret_whenF rfl) rets_n))) | exact ret_eq rfl rfl (congrArg (fun m : Nat => Ty.int .i64 (m : Int)) hrr.2.1.symm) | exact ret_eq rfl rfl (congrArg Ty.bool hrr.2.2.symm)
          ·
            refine t_skip ?_
            refine i_then ?_
            refine t_seq ?_
            have hlt : a + colLen f c.1 + k.1 < t.length := by omega
            have hsg := seg_succ hlt
            refine t_draw mixed rfl ?_
            refine mvS' rfl ?_
            refine mvI rfl ?_
            refine r_idxS (i := a + colLen f c.1 + k.1) rfl rfl rfl rfl hlt ?_
            refine mvI rfl ?_
            refine r_field_pp rfl rfl rfl rfl rfl (by decide) ?_
            refine r_load_pp rfl rfl rfl rfl ?_
            refine mvI rfl ?_
            refine r_index_slN rfl rfl rfl rfl rfl rfl (by omega) ?_
            refine r_load_pp rfl rfl rfl rfl ?_
            refine r_sub rfl rfl (by omega) (by omega) ?_
            refine r_bin rfl rfl rfl ?_
            refine asI rfl ?_
            refine asB rfl ?_
            refine r_nil ?_
            refine ⟨by kernel_rfl, ?_⟩
            refine i_then ?_
            refine t_seq ?_
            refine t_block ?_
            refine t_seq ?_
            refine t_region ?_
            refine mvI rfl ?_
            refine r_bin rfl rfl rfl ?_
            refine mvB rfl ?_
            apply r_guard (s := 58) rfl rfl rfl
            · intro hg; apply opT_of; (refine mvB rfl ?_); refine r_nil ?_; exact rfl
            · exact rfl
            · exact rfl
            apply r_guard (s := 58) rfl rfl rfl
            · intro hg; apply opT_strip (s := 59) rfl (by (rw [hg]; rfl)); apply opT_of; (refine r_not rfl ?_); refine r_nil ?_; exact rfl
            · exact rfl
            · exact rfl
            refine r_and rfl rfl ?_
            refine mvB rfl ?_
            apply r_guard (s := 62) rfl rfl rfl
            · intro hg; apply opT_of; (refine mvB rfl ?_); refine r_nil ?_; exact rfl
            · exact rfl
            · exact rfl
            apply r_guard (s := 62) rfl rfl rfl
            · intro hg; apply opT_strip (s := 63) rfl (by (rw [hg]; rfl)); apply opT_of; (refine r_not rfl ?_); refine r_nil ?_; exact rfl
            · exact rfl
            · exact rfl
            refine r_and rfl rfl ?_
            refine asB rfl ?_
            refine r_nil ?_
            refine i_then ?_
            refine t_cond rfl (fun hc4 => ?_) (fun hc4 => ?_)
            ·
              refine t_skip ?_
              refine i_block ?_
              refine i_then ?_
              have hcan : nth t (a + colLen f c.1 + k.1) ∈ canR f (rdK f t (a + colLen f c.1 + k.1)) := by
                first
                | exact hcan
                | (rw [hin, row_can]; exact .inl ⟨(rr_c1 hc4).1, (rr_c1 hc4).2.1, of_decide_eq_false (rr_c1 hc4).2.2⟩)
              refine t_region ?_
              refine mvI rfl ?_
              refine r_add rfl rfl (by omega) (by omega) ?_
              refine asI rfl ?_
              refine r_nil ?_
              refine i_block ?_
              refine i_then ?_
              refine t_region ?_
              refine mvI rfl ?_
              refine r_add rfl rfl (by omega) (by omega) ?_
              refine asI rfl ?_
              refine r_nil ?_
              refine i_round (⟨k.1 + 1, by omega, by omega, accK_succ k.2.2.2 hcan⟩) ?_ (by show (nth f.widths c.1).toNat - (k.1 + 1) < (nth f.widths c.1).toNat - k.1; omega)
              (refine Ent.mk' ?_ ?_ <;> (repeat' (first | exact allSub_zero | exact allTags_nil | refine allSub_succ' ?_ (Ty.sub_any _) | refine allSub_succ' ?_ (Ty.sub_refl _) | refine allTags_cons rfl (Cont.sub_refl _) ?_ | refine allSub_succ' ?_ ?_)))
              all_goals skip
              all_goals first | exact Ty.sub_int (by rw [hsg]; exact (num_32 (rr_c1 hc4).1).1) | exact Ty.sub_bool (by rw [hsg]; exact (num_32 (rr_c1 hc4).1).2)
            ·
              refine t_seq ?_
              refine t_region ?_
              refine mvI rfl ?_
              refine r_bin rfl rfl rfl ?_
              refine mvB rfl ?_
              apply r_guard (s := 69) rfl rfl rfl
              · intro hg; apply opT_of; (refine mvI rfl ?_); refine r_nil ?_; exact rfl
              · exact rfl
              · exact rfl
              apply r_guard (s := 69) rfl rfl rfl
              · intro hg; apply opT_strip (s := 70) rfl (by (rw [hg]; rfl)); apply opT_of; (refine r_bin rfl rfl rfl ?_); refine r_nil ?_; exact rfl
              · exact rfl
              · exact rfl
              refine r_and rfl rfl ?_
              refine mvB rfl ?_
              apply r_guard (s := 73) rfl rfl rfl
              · intro hg; apply opT_of; (refine mvI rfl ?_); refine r_nil ?_; exact rfl
              · exact rfl
              · exact rfl
              apply r_guard (s := 73) rfl rfl rfl
              · intro hg; apply opT_strip (s := 74) rfl (by (rw [hg]; rfl)); apply opT_of; (refine r_bin rfl rfl rfl ?_); refine r_nil ?_; exact rfl
              · exact rfl
              · exact rfl
              apply r_guard (s := 73) rfl rfl rfl
              · intro hg; apply opT_strip (s := 75) rfl (by (rw [hg]; rfl)); apply opT_of; (refine mvB rfl ?_); refine r_nil ?_; exact rfl
              · exact rfl
              · exact rfl
              apply r_guardG (s := 76) rfl rfl rfl
              · intro hg1 hg2; apply opT_of; (refine mvB rfl ?_); refine r_nil ?_; exact rfl
              · exact rfl
              · exact rfl
              apply r_guard (s := 73) rfl rfl rfl
              · intro hg; apply opT_strip (s := 76) rfl (by (rw [hg]; rfl)); apply opT_stripG (s := 77) rfl (by (rw [hg]; rfl)); apply opT_of; (refine r_or rfl rfl ?_); refine r_nil ?_; exact rfl
              · exact rfl
              · exact rfl
              apply r_guard (s := 73) rfl rfl rfl
              · intro hg; apply opT_strip (s := 78) rfl (by (rw [hg]; rfl)); apply opT_of; (refine mvB rfl ?_); refine r_nil ?_; exact rfl
              · exact rfl
              · exact rfl
              apply r_guardG (s := 79) rfl rfl rfl
              · intro hg1 hg2; apply opT_of; (refine mvB rfl ?_); refine r_nil ?_; exact rfl
              · exact rfl
              · exact rfl
              apply r_guard (s := 73) rfl rfl rfl
              · intro hg; apply opT_strip (s := 79) rfl (by (rw [hg]; rfl)); apply opT_stripG (s := 80) rfl (by (rw [hg]; rfl)); apply opT_of; (refine r_or rfl rfl ?_); refine r_nil ?_; exact rfl
              · exact rfl
              · exact rfl
              refine r_and rfl rfl ?_
              refine asB rfl ?_
              refine r_nil ?_
              refine i_then ?_
              refine t_cond rfl (fun hc5 => ?_) (fun hc5 => ?_)
              ·
                have hdg := rr_c2 hc5
                have hcan : nth t (a + colLen f c.1 + k.1) ∈ canR f (rdK f t (a + colLen f c.1 + k.1)) := by rw [hin, row_can]; exact .inr ⟨hdg.1, hdg.2.imp id (Or.imp id of_decide_eq_true)⟩
                refine t_region ?_
                refine mvI rfl ?_
                refine r_mul rfl rfl (by omega) (by omega) ?_
                refine mvI rfl ?_
                refine r_convK rfl rfl rfl rfl (IntWalk.i64_in ((nth t (a + colLen f c.1 + k.1)).toNat : Int) (by omega)) ?_
                refine r_add rfl rfl (by omega) (by omega) ?_
                refine r_sub rfl rfl (by omega) (by omega) ?_
                refine asI rfl ?_
                refine asB rfl ?_
                refine r_nil ?_
                refine i_block ?_
                refine i_then ?_
                have hcan : nth t (a + colLen f c.1 + k.1) ∈ canR f (rdK f t (a + colLen f c.1 + k.1)) := by
                  first
                  | exact hcan
                  | (rw [hin, row_can]; exact .inl ⟨(rr_c1 hc4).1, (rr_c1 hc4).2.1, of_decide_eq_false (rr_c1 hc4).2.2⟩)
                refine t_region ?_
                refine mvI rfl ?_
                refine r_add rfl rfl (by omega) (by omega) ?_
                refine asI rfl ?_
                refine r_nil ?_
                refine i_block ?_
                refine i_then ?_
                refine t_region ?_
                refine mvI rfl ?_
                refine r_add rfl rfl (by omega) (by omega) ?_
                refine asI rfl ?_
                refine r_nil ?_
                refine i_round (⟨k.1 + 1, by omega, by omega, accK_succ k.2.2.2 hcan⟩) ?_ (by show (nth f.widths c.1).toNat - (k.1 + 1) < (nth f.widths c.1).toNat - k.1; omega)
                (refine Ent.mk' ?_ ?_ <;> (repeat' (first | exact allSub_zero | exact allTags_nil | refine allSub_succ' ?_ (Ty.sub_any _) | refine allSub_succ' ?_ (Ty.sub_refl _) | refine allTags_cons rfl (Cont.sub_refl _) ?_ | refine allSub_succ' ?_ ?_)))
                all_goals skip
                all_goals first | exact Ty.sub_int (by rw [hsg]; exact (num_dg hdg.1).1) | exact Ty.sub_bool (by rw [hsg]; exact (num_dg hdg.1).2)
              ·
                refine t_seq ?_
                have hrr := rr_stop (s := s) (run_stop k.2.2.1 k.2.2.2 (by rw [hin]; exact rr_no hc4 hc5)).1 (show a + colLen f c.1 + k.1 < a + colLen f f.widths.length by omega)
                refine t_region ?_
                refine r_load_ptrN rfl rfl (by decide) rfl rfl (by exact Nat.le_of_ble_eq_true rfl) ?_
                refine mvI rfl ?_
                refine r_storeN rfl rfl (by decide) rfl rfl rfl rfl rfl rfl ?_
                refine asI rfl ?_
                refine asB rfl ?_
                refine r_nil ?_
                refine i_then ?_
                refine t_ret ?_
                refine i_block_ret ?_
                refine i_then_ret ?_
                refine i_block_ret ?_
                refine i_then_ret ?_
                refine i_then_ret ?_
                refine i_block_ret ?_
                refine i_then_ret ?_
                refine i_block_ret ?_
                refine i_then_ret ?_
                refine i_then_ret ?_
                refine i_block_ret ?_
                refine i_then_ret ?_
                refine i_rcell3 rfl rfl rfl rfl rfl rfl (by decide) rfl rfl rfl ?_ ?_ ?_
                all_goals skip
                all_goals first | (rw [hrr.1]; exact ret_agg (rets_c (ret_whenF rfl) (rets_c (ret_whenF rfl) rets_n))) | exact ret_eq rfl rfl (congrArg (fun m : Nat => Ty.int .i64 (m : Int)) hrr.2.1.symm) | exact ret_eq rfl rfl (congrArg Ty.bool hrr.2.2.symm)
        ·
          refine t_exit ?_
          refine i_then_exit ?_
          refine i_then_exit ?_
          refine i_block_exit rfl ?_
          refine i_then ?_
          refine t_seq ?_
          refine t_seq ?_
          have hkw : k.1 = (nth f.widths c.1).toNat := by omega
          have hbst := col_end hst hwid.1 (by omega)
          refine t_region ?_
          refine mvI rfl ?_
          refine mvS' rfl ?_
          refine r_lenS rfl rfl rfl ?_
          refine r_bin rfl rfl rfl ?_
          refine mvB rfl ?_
          apply r_guard (s := 95) rfl rfl rfl
          · intro hg; apply opT_of; (refine mvS' rfl ?_); refine r_nil ?_; exact rfl
          · exact rfl
          · exact rfl
          apply r_guard (s := 95) rfl rfl rfl
          · intro hg; apply opT_of; (refine mvI rfl ?_); refine r_nil ?_; exact rfl
          · exact rfl
          · exact rfl
          apply r_guard (s := 95) rfl rfl rfl
          · intro hg; apply opT_strip (s := 96) rfl (by (rw [hg]; rfl)); apply opT_strip (s := 97) rfl (by (rw [hg]; rfl)); apply opT_of; (refine r_idxS (i := a + colLen f c.1 + k.1) rfl rfl rfl rfl (by simp at hg; omega) ?_); refine r_nil ?_; exact rfl
          · exact rfl
          · exact rfl
          apply r_guard (s := 95) rfl rfl rfl
          · intro hg; apply opT_strip (s := 98) rfl (by (rw [hg]; rfl)); apply opT_of; (refine r_bin rfl rfl rfl ?_); refine r_nil ?_; exact rfl
          · exact rfl
          · exact rfl
          refine r_or rfl rfl ?_
          refine r_nil ?_
          refine i_then ?_
          refine t_cond rfl (fun hc6 => ?_) (fun hc6 => ?_)
          ·
            refine t_seq ?_
            rw [← hkw] at hbst
            have hrr := rr_stop (s := s) (rr_bar hbst k.2.2.1 k.2.2.2 hc6) (show a + colLen f c.1 + k.1 < a + colLen f f.widths.length by omega)
            refine t_region ?_
            refine r_load_ptrN rfl rfl (by decide) rfl rfl (by exact Nat.le_of_ble_eq_true rfl) ?_
            refine mvI rfl ?_
            refine r_storeN rfl rfl (by decide) rfl rfl rfl rfl rfl rfl ?_
            refine asI rfl ?_
            refine asB rfl ?_
            refine r_nil ?_
            refine i_then ?_
            refine t_ret ?_
            refine i_then_ret ?_
            refine i_block_ret ?_
            refine i_then_ret ?_
            refine i_then_ret ?_
            refine i_block_ret ?_
            refine i_then_ret ?_
            refine i_rcell3 rfl rfl rfl rfl rfl rfl (by decide) rfl rfl rfl ?_ ?_ ?_
            all_goals skip
            all_goals first | (rw [hrr.1]; exact ret_agg (rets_c (ret_whenF rfl) (rets_c (ret_whenF rfl) rets_n))) | exact ret_eq rfl rfl (congrArg (fun m : Nat => Ty.int .i64 (m : Int)) hrr.2.1.symm) | exact ret_eq rfl rfl (congrArg Ty.bool hrr.2.2.symm)
          ·
            refine t_skip ?_
            refine i_then ?_
            refine t_seq ?_
            rw [← hkw] at hbst
            have hbp : a + colLen f (c.1 + 1) ≤ t.length ∧ AccK f t (a + colLen f (c.1 + 1)) := by
              have := rr_pass hbst k.2.2.1 k.2.2.2 hc6
              rw [show a + colLen f (c.1 + 1) = a + colLen f c.1 + k.1 + 1 by omega]; exact this
            have hns : numsK f t a (c.1 + 1) = numsK f t a c.1 ++ [numK (seg t (a + colLen f c.1) k.1)] := by rw [hkw]; exact numsK_succ
            refine t_region ?_
            refine mvI rfl ?_
            refine r_add rfl rfl (by omega) (by omega) ?_
            refine asI rfl ?_
            refine r_nil ?_
            refine i_then ?_
            refine t_region ?_
            refine r_field_ptr rfl rfl rfl rfl rfl (by decide) ?_
            refine r_load_ptr rfl rfl (by decide) rfl rfl rfl ?_
            refine mvI rfl ?_
            refine r_buildSlice (E := I64) (xs := [numK (seg t (a + colLen f c.1) k.1)]) rfl rfl rfl rfl rfl (by decide) (by decide) (by repeat (first | exact (Parts.nil : Parts _ _ [] _) | (show Parts _ _ ((_, _) :: _) _; apply Parts.one; (· exact (rfl : _ = Ty.int _ _)); (· exact rfl)))) (by exact rfl) rfl ?_
            refine r_append rfl rfl (by decide) rfl rfl rfl rfl rfl rfl (by decide) (by (simp <;> omega)) (by (simp <;> omega)) ?_
            refine r_field_ptr rfl rfl rfl rfl rfl (by decide) ?_
            refine r_store1 rfl rfl (by decide) rfl rfl (by exact (rfl : _ = Ty.row _ _ _ _)) rfl (by exact Nat.le_of_ble_eq_true rfl) rfl rfl (by exact rfl) ?_
            refine r_nil ?_
            refine i_block ?_
            refine i_then ?_
            refine t_region ?_
            refine mvI rfl ?_
            refine r_add rfl rfl (by omega) (by omega) ?_
            refine asI rfl ?_
            refine r_nil ?_
            refine i_round (⟨c.1 + 1, hcw, hbp.1, hbp.2⟩) ?_ (by show f.widths.length - (c.1 + 1) < f.widths.length - c.1; omega)
            (refine Ent.mk' ?_ ?_ <;> (repeat' (first | exact allSub_zero | exact allTags_nil | exact subs_nil | refine allSub_succ' ?_ (Ty.sub_any _) | refine allSub_succ' ?_ (Ty.sub_refl _) | refine allTags_cons rfl (Cont.sub_refl _) ?_ | refine allTags_cons rfl (Cont.sub_subs ?_) ?_ | refine subs_cons ?_ (Ty.sub_refl _) | refine subs_cons ?_ ?_ | refine allSub_succ' ?_ ?_)))
            all_goals skip
            all_goals first | exact Ty.sub_row hns.symm | exact Ty.sub_int (by rw [hce]; omega)
    ·
      refine t_exit ?_
      refine i_then_exit ?_
      refine i_then_exit ?_
      refine i_block_exit rfl ?_
      refine i_then ?_
      refine t_seq ?_
      have hcW : c.1 = f.widths.length := by omega
      have hrr := rr_full (f := f) (t := t) (a := a) (s := s) (by rw [← hcW]; exact c.2.2.1) (by rw [← hcW]; exact c.2.2.2)
      refine t_pubC (tg := 110) [] [(12, Cont.cells 67 (BRowE.tys ⟨numsK f t a f.widths.length, s⟩))] (by decide) rfl trivial ⟨pubC_cells rfl rfl ⟨pubTy_rowE (by rw [hcW]), pubTy_same rfl, trivial⟩, trivial⟩ ?_
      refine t_region ?_
      refine r_load_ptrN rfl rfl (by decide) rfl rfl (by exact Nat.le_of_ble_eq_true rfl) ?_
      refine mvI rfl ?_
      refine r_storeN rfl rfl (by decide) rfl rfl rfl rfl rfl rfl ?_
      refine asI rfl ?_
      refine asB rfl ?_
      refine r_nil ?_
      refine i_then ?_
      refine t_ret ?_
      refine i_rcell3 rfl rfl rfl rfl rfl rfl (by decide) rfl rfl rfl ?_ ?_ ?_
      all_goals skip
      all_goals first | exact ret_eq rfl rfl (congrArg Ty.bool hrr.2.2.symm) | (rw [hrr.1]; exact ret_agg (rets_c (ret_whenT rfl (ret_refl rfl rfl)) (rets_c (ret_whenT rfl (ret_refl rfl rfl)) rets_n))) | exact ret_eq rfl rfl (congrArg (fun m : Nat => Ty.int .i64 (m : Int)) ((congrArg (fun m => a + colLen f m) hcW).trans hrr.2.1.symm))
end Go.Proofs.YtjjndkenddigiaaGreatDoor

namespace Go.Proofs.YtjjndkenddigiaaGreatDoor
open Go Go.T
set_option maxHeartbeats 4000000
theorem pr_no1 {f : BForm} {t : Byt} (h : wholeR (runP f t) = false) : prI f t = false := by unfold prI; rw [h, Bool.and_false]
theorem pr_no2 {f : BForm} {t : Byt} {m : Nat} (h : runN f t = m) (h2 : m < t.length) : prI f t = false := by unfold prI; rw [decide_eq_false (by omega), Bool.false_and]
structure HeadR (p : Rdr) : Prop where
  must : p.must = []
  begun : p.begun = false
  closed : p.closed = false
  none : p.read = [] → p.fresh = true
  page : 0 < p.page → p.read ≠ []
theorem head_0 : HeadR Rdr.new := ⟨rfl, rfl, rfl, fun _ => rfl, fun h => absurd h (by decide)⟩
theorem head_not {p : Rdr} (hh : HeadR p) : wholeR p = false := by unfold wholeR; rw [hh.closed]; rfl
theorem head_len {f : BForm} {p : Rdr} (hh : HeadR p) (ho : RdrOk f p) : (p.read.length : Int) = p.rows := by
  have := ho.few
  rw [if_neg (ng hh.begun)] at this; omega
theorem head_rows {f : BForm} {p : Rdr} (hh : HeadR p) (ho : RdrOk f p) : ∀ r ∈ p.read, RowOk f r := fun r hr => by
  obtain ⟨k, hk, e⟩ := List.getElem_of_mem hr
  have h := ho.done k (by have := head_len hh ho; omega)
  rwa [show nth p.read k = r by simp [nth, hk, e]] at h
theorem head_12 {f : BForm} {p : Rdr} (hh : HeadR p) (ho : RdrOk f p) : p.read.length ≤ 12 := by
  have := head_len hh ho; have := ho.r1; omega
theorem head_can {f : BForm} {p : Rdr} {x : UInt8} (hh : HeadR p) (ho : RdrOk f p) : x ∈ canR f p ↔ ((x = 32 ∨ x = 45) ∧ p.page < f.lines ∧ p.read.length < 12) ∨ (x = 61 ∧ (0 < p.page ∨ p.read.length = 0)) := by
  have e : canR f p = (if p.page < f.lines ∧ p.rows < 12 then [32, 45] else []) ++ (if p.page > 0 ∨ p.fresh = true then [61] else []) := by
    unfold canR
    rw [hh.must, if_neg (ng hh.begun), if_neg (ng hh.closed)]
  have hl := head_len hh ho
  rw [e, List.mem_append]
  refine or_congr ?_ ?_
  · by_cases h : p.page < f.lines ∧ p.rows < 12
    · rw [if_pos h]; exact ⟨fun hx => ⟨by simpa using hx, h.1, by omega⟩, fun hx => by simpa using hx.1⟩
    · rw [if_neg h]; exact ⟨fun hx => absurd hx List.not_mem_nil, fun hx => absurd ⟨hx.2.1, by omega⟩ h⟩
  · have h2 : p.fresh = true ↔ p.read.length = 0 := by
      refine ⟨fun h => ?_, fun h => hh.none (List.length_eq_zero_iff.1 h)⟩
      unfold Rdr.fresh at h
      simp only [Bool.and_eq_true, decide_eq_true_eq] at h
      omega
    by_cases h : p.page > 0 ∨ p.read.length = 0
    · rw [if_pos (h.imp id h2.2)]; exact ⟨fun hx => ⟨List.mem_singleton.1 hx, h⟩, fun hx => List.mem_singleton.2 hx.1⟩
    · rw [if_neg (fun e => h (e.imp id h2.1))]; exact ⟨fun hx => absurd hx List.not_mem_nil, fun hx => absurd hx.2 h⟩
theorem head_61 {f : BForm} {p : Rdr} (hh : HeadR p) : nextR f p 61 = { { p with closed := true } with must := lineB f p.read } := next_e hh.must hh.begun rfl
theorem head_row {f : BForm} {p : Rdr} {x : UInt8} (hh : HeadR p) (ho : RdrOk f p) (h : x = 32 ∨ x = 45) : nextR f p x = rowP p.rows p.page p.read (decide ((x.toNat : Int) = 45)) [] 0 0 0 false := by
  rw [next_r hh.must hh.begun (by rcases h with rfl | rfl <;> decide) (by rcases h with rfl | rfl <;> decide)]
  obtain ⟨_, h2, h3⟩ := ho.idle hh.begun
  have h4 := hh.closed
  have h5 := hh.must
  unfold rowP
  cases p
  simp_all
section
variable {f : BForm} {t : Byt} {a : Nat}
theorem must_line {q : Rdr} {m : Byt} (hr : rdK f t a = { q with must := m }) (hac : AccK f t a) (ha : a ≤ t.length) :
    a + matN (t.drop a) m ≤ t.length ∧ matN (t.drop a) m ≤ m.length ∧ AccK f t (a + matN (t.drop a) m) ∧ (matN (t.drop a) m < m.length → runN f t = a + matN (t.drop a) m ∧ wholeR (runP f t) = false) ∧ (¬ matN (t.drop a) m < m.length → rdK f t (a + matN (t.drop a) m) = { q with must := [] }) := by
  obtain ⟨h1, h2, h3, h4⟩ := mat_le (t.drop a) m
  generalize matN (t.drop a) m = n at *
  rw [List.length_drop] at h1
  have hl : a + n ≤ t.length := by omega
  obtain ⟨g1, g2⟩ := must_at n hr hac hl h2 fun j hj => by rw [← h3 j hj, nth_drop]
  refine ⟨hl, h2, g1, fun hn => ?_, fun hn => ?_⟩
  · have key : runN f t = a + n ∧ runP f t = rdK f t (a + n) := by
      rcases h4 hn with h | h
      · rw [List.length_drop] at h
        exact run_end hl g1 (by omega)
      · refine run_stop hl g1 fun hc => h ?_
        rw [g2, must_can hn, List.mem_singleton] at hc
        rw [nth_drop, hc]
    exact ⟨key.1, by rw [key.2, g2]; exact must_not hn⟩
  · rw [g2, List.drop_of_length_le (by omega)]
theorem mat_cons {x : UInt8} {m : Byt} (ha : a < t.length) (hx : nth t a = x) : matN (t.drop a) ([x] ++ m) = matN (t.drop (a + 1)) m + 1 := by
  rw [drop_nth ha]
  show (if nth t a = x then _ else _) = _
  rw [if_pos hx]; rfl
theorem line_go {q : Rdr} {x : UInt8} {m : Byt} (ha : a < t.length) (hac : AccK f t a) (hx : nth t a = x) (hc : x ∈ canR f (rdK f t a)) (hn : nextR f (rdK f t a) x = { q with must := m }) :
    a + matN (t.drop a) ([x] ++ m) ≤ t.length ∧ AccK f t (a + matN (t.drop a) ([x] ++ m)) ∧ (matN (t.drop a) ([x] ++ m) < ([x] ++ m).length → runN f t = a + matN (t.drop a) ([x] ++ m) ∧ wholeR (runP f t) = false) ∧ (¬ matN (t.drop a) ([x] ++ m) < ([x] ++ m).length → rdK f t (a + matN (t.drop a) ([x] ++ m)) = { q with must := [] }) := by
  have hr : rdK f t (a + 1) = { q with must := m } := by rw [rdK_succ ha, hx, hn]
  obtain ⟨h1, h2, h3, h4, h5⟩ := must_line hr (accK_succ hac (by rw [hx]; exact hc)) (by omega)
  rw [mat_cons ha hx]
  have e : a + (matN (t.drop (a + 1)) m + 1) = a + 1 + matN (t.drop (a + 1)) m := by omega
  have el : ([x] ++ m).length = m.length + 1 := by simp
  rw [e, el]
  exact ⟨h1, h3, fun h => h4 (by omega), fun h => h5 (by omega)⟩
theorem eq_line (ha : a < t.length) (hac : AccK f t a) (hh : HeadR (rdK f t a)) (ho : RdrOk f (rdK f t a)) (hx : nth t a = 61) (hp : 0 < (rdK f t a).page ∨ (rdK f t a).read.length = 0) :
    a + matN (t.drop a) ([61] ++ lineB f (rdK f t a).read) ≤ t.length ∧ AccK f t (a + matN (t.drop a) ([61] ++ lineB f (rdK f t a).read)) ∧ (matN (t.drop a) ([61] ++ lineB f (rdK f t a).read) < ([61] ++ lineB f (rdK f t a).read).length → runN f t = a + matN (t.drop a) ([61] ++ lineB f (rdK f t a).read) ∧ prI f t = false) ∧
    (¬ matN (t.drop a) ([61] ++ lineB f (rdK f t a).read) < ([61] ++ lineB f (rdK f t a).read).length → rdK f t (a + matN (t.drop a) ([61] ++ lineB f (rdK f t a).read)) = { rdK f t a with closed := true }) := by
  obtain ⟨h1, h2, h3, h4⟩ := line_go (q := { rdK f t a with closed := true }) ha hac hx ((head_can hh ho).2 (.inr ⟨rfl, hp⟩)) (head_61 hh)
  refine ⟨h1, h2, fun h => ⟨(h3 h).1, pr_no1 (h3 h).2⟩, fun h => (h4 h).trans ?_⟩
  have := hh.must
  cases hq : rdK f t a
  rw [hq] at this
  simp_all
theorem foot_can {p : Rdr} (hh : HeadR p) : canR f { p with closed := true } = if p.page = f.lines ∧ p.rows < 12 then [43] else [] := by
  unfold canR
  rw [show ({ p with closed := true } : Rdr).must = [] from hh.must]
  show (if p.begun then _ else if true then _ else _) = _
  rw [if_neg (ng hh.begun), if_pos rfl]
theorem foot_end {b : Nat} (hh : HeadR (rdK f t a)) (hb : b ≤ t.length) (hac : AccK f t b) (hr : rdK f t b = { rdK f t a with closed := true }) (he : (b : Int) = (t.length : Int)) : runN f t = b ∧ prI f t = true ∧ (runP f t).read = (rdK f t a).read := by
  obtain ⟨h1, h2⟩ := run_end hb hac (by omega)
  refine ⟨h1, ?_, by rw [h2, hr]⟩
  unfold prI
  rw [h2, hr, decide_eq_true (by omega : runN f t = t.length), Bool.true_and]
  unfold wholeR
  show (true && (rdK f t a).must.isEmpty) = true
  rw [hh.must]; rfl
theorem foot_stop {b : Nat} (hh : HeadR (rdK f t a)) (ho : RdrOk f (rdK f t a)) (hb : b ≤ t.length) (hac : AccK f t b) (hr : rdK f t b = { rdK f t a with closed := true }) (he : ¬ (b : Int) = (t.length : Int)) (h : (decide ((rdK f t a).page < f.lines) || decide (((rdK f t a).read.length : Int) = 12)) = true) : runN f t = b ∧ prI f t = false := by
  have h1 := (run_stop hb hac (by
    rw [hr, foot_can hh, if_neg]
    · exact List.not_mem_nil
    · have hl := head_len hh ho
      simp only [Bool.or_eq_true, decide_eq_true_eq] at h
      omega)).1
  exact ⟨h1, pr_no2 h1 (by omega)⟩
theorem plus_line {b : Nat} (hh : HeadR (rdK f t a)) (ho : RdrOk f (rdK f t a)) (hb : b ≤ t.length) (hac : AccK f t b) (hr : rdK f t b = { rdK f t a with closed := true }) (he : ¬ (b : Int) = (t.length : Int)) (h : (decide ((rdK f t a).page < f.lines) || decide (((rdK f t a).read.length : Int) = 12)) = false) :
    b + matN (t.drop b) ([43] ++ lineB f (rdK f t a).read) ≤ t.length ∧ AccK f t (b + matN (t.drop b) ([43] ++ lineB f (rdK f t a).read)) ∧ (matN (t.drop b) ([43] ++ lineB f (rdK f t a).read) < ([43] ++ lineB f (rdK f t a).read).length → runN f t = b + matN (t.drop b) ([43] ++ lineB f (rdK f t a).read) ∧ prI f t = false) ∧
    (¬ matN (t.drop b) ([43] ++ lineB f (rdK f t a).read) < ([43] ++ lineB f (rdK f t a).read).length → rdK f t (b + matN (t.drop b) ([43] ++ lineB f (rdK f t a).read)) = { rdK f t a with page := 0 }) := by
  have hl := head_len hh ho
  have hp1 := ho.p1
  have hr1 := ho.r1
  simp only [Bool.or_eq_false_iff, decide_eq_false_iff_not] at h
  have hcan : canR f (rdK f t b) = [43] := by rw [hr, foot_can hh, if_pos (by omega)]
  by_cases hx : nth t b = 43
  · have hn : nextR f (rdK f t b) 43 = { { rdK f t a with page := 0 } with must := lineB f (rdK f t a).read } := by
      rw [hr, next_p (show ({ rdK f t a with closed := true } : Rdr).must = [] from hh.must) (show ({ rdK f t a with closed := true } : Rdr).begun = false from hh.begun) rfl]
      have := hh.closed
      cases hq : rdK f t a
      rw [hq] at this
      simp_all
    obtain ⟨h1, h2, h3, h4⟩ := line_go (q := { rdK f t a with page := 0 }) (show b < t.length by omega) hac hx (by rw [hcan]; exact List.mem_singleton.2 rfl) hn
    refine ⟨h1, h2, fun h => ⟨(h3 h).1, pr_no1 (h3 h).2⟩, fun h => (h4 h).trans ?_⟩
    have := hh.must
    cases hq : rdK f t a
    rw [hq] at this
    simp_all
  · have e : matN (t.drop b) ([43] ++ lineB f (rdK f t a).read) = 0 := by
      rw [drop_nth (show b < t.length by omega)]
      show (if nth t b = 43 then _ else _) = _
      rw [if_neg hx]
    rw [e]
    have h1 := (run_stop hb hac (by rw [hcan, List.mem_singleton]; exact hx)).1
    exact ⟨hb, hac, fun _ => ⟨h1, pr_no2 h1 (by omega)⟩, fun h => absurd (show 0 < ([43] ++ lineB f (rdK f t a).read).length by simp) h⟩
theorem plus_head {b : Nat} (hf : FormOk f) (hh : HeadR (rdK f t a)) (ho : RdrOk f (rdK f t a)) (h : (decide ((rdK f t a).page < f.lines) || decide (((rdK f t a).read.length : Int) = 12)) = false) (hr : rdK f t b = { rdK f t a with page := 0 }) : HeadR (rdK f t b) := by
  have hp1 := ho.p1
  have hl1 := hf.l1
  simp only [Bool.or_eq_false_iff, decide_eq_false_iff_not] at h
  have hne := hh.page (by omega)
  rw [hr]
  exact ⟨hh.must, hh.begun, hh.closed, fun h => absurd h hne, fun h => absurd h (by show ¬ (0 : Int) < 0; omega)⟩
theorem find_col {A m : Nat} : ∀ C : Nat, A ≤ m → m < A + colLen f C → ∃ c k : Nat, c < C ∧ k ≤ (nth f.widths c).toNat ∧ m = A + colLen f c + k
  | 0, h1, h2 => by rw [colLen_0] at h2; omega
  | C + 1, h1, h2 => by
    by_cases h : m < A + colLen f C
    · obtain ⟨c, k, h3, h4, h5⟩ := find_col C h1 h
      exact ⟨c, k, by omega, h4, h5⟩
    · rw [colLen_s] at h2
      exact ⟨C, m - (A + colLen f C), by omega, by omega, by omega⟩
theorem row_stop {A : Nat} {R P : Int} {l : List BRow} {s : Bool} (hf : FormOk f) (h0 : rdK f t A = rowP R P l s [] 0 0 0 false) (hA : A ≤ t.length) (hac : AccK f t A) (h : rrI f t A = false) : runN f t = rrN f t A ∧ prI f t = false := by
  have h1 : ¬ A + colLen f f.widths.length ≤ runN f t := of_decide_eq_false h
  have h2 := acc_run hA hac
  have h3 := runN_len (f := f) (t := t)
  refine ⟨by unfold rrN; omega, ?_⟩
  by_cases hlt : runN f t < t.length
  · exact pr_no2 rfl hlt
  have he : runN f t = t.length := by omega
  have hre : runP f t = rdK f t t.length := (run_end (Nat.le_refl _) (by rw [← he]; exact run_acc) (by omega)).2
  obtain ⟨c, k, h4, h5, h6⟩ := find_col (f := f) (A := A) (m := t.length) f.widths.length (by omega) (by omega)
  have hst := col_head hf h0 h4 (by omega)
  refine pr_no1 ?_
  rw [hre]
  by_cases hk : k = (nth f.widths c).toNat
  · subst hk
    rw [h6, col_end hst (nth_wid hf h4).1 (by omega)]; exact bar_not
  · rw [h6, col_in hst k (by omega) (by omega)]; exact row_not
theorem row_full {A : Nat} {R P : Int} {l : List BRow} {s : Bool} (hf : FormOk f) (h0 : rdK f t A = rowP R P l s [] 0 0 0 false) (h : rrI f t A = true) :
    A + colLen f f.widths.length ≤ t.length ∧ AccK f t (A + colLen f f.widths.length) ∧ rrN f t A = A + colLen f f.widths.length ∧
    rdK f t (A + colLen f f.widths.length) = { ({ rows := R + 1, page := P + 1, begun := false, closed := false, column := f.widths.length, offset := 0, number := 0, digits := false, read := l ++ [⟨numsK f t A f.widths.length, s⟩], must := [] } : Rdr) with must := [letB f ⟨numsK f t A f.widths.length, s⟩, 10] } := by
  have h1 : A + colLen f f.widths.length ≤ runN f t := of_decide_eq_true h
  have h3 := runN_len (f := f) (t := t)
  have hl : A + colLen f f.widths.length ≤ t.length := by omega
  refine ⟨hl, acc_le run_acc h1, by unfold rrN; omega, ?_⟩
  rw [cols_at hf h0 _ (Nat.le_refl _) hl]
  unfold colP
  rw [if_pos rfl]
end
theorem page_0 {f : BForm} {t : Byt} : 0 = (rdK f t 0).page := rfl
theorem read_0 {f : BForm} {t : Byt} : (rdK f t 0).read = [] := rfl
theorem acc_00 {f : BForm} {t : Byt} : AccK f t 0 := fun j h => absurd h (Nat.not_lt_zero j)
theorem head_00 {f : BForm} {t : Byt} : HeadR (rdK f t 0) := head_0
theorem eq_c {x : UInt8} {P : Int} {n : Nat} (h : (decide ((x.toNat : Int) = 61) && (decide (P > 0) || decide ((n : Int) = 0))) = true) : x = 61 ∧ (0 < P ∨ n = 0) := by
  simp only [Bool.and_eq_true, Bool.or_eq_true, decide_eq_true_eq] at h
  exact ⟨(u8_eq (n := 61) (by decide)).1 h.1, h.2.imp id (fun h => by omega)⟩
theorem rw_c {x : UInt8} {P L : Int} {n : Nat} (h : ((decide ((x.toNat : Int) = 32) || decide ((x.toNat : Int) = 45)) && decide (P < L) && decide ((n : Int) < 12)) = true) : (x = 32 ∨ x = 45) ∧ P < L ∧ n < 12 := by
  simp only [Bool.and_eq_true, Bool.or_eq_true, decide_eq_true_eq] at h
  exact ⟨h.1.1.imp (u8_eq (n := 32) (by decide)).1 (u8_eq (n := 45) (by decide)).1, h.1.2, by omega⟩
theorem df_c {f : BForm} {p : Rdr} {x : UInt8} (hh : HeadR p) (ho : RdrOk f p) (h1 : (decide ((x.toNat : Int) = 61) && (decide (p.page > 0) || decide ((p.read.length : Int) = 0))) = false) (h2 : ((decide ((x.toNat : Int) = 32) || decide ((x.toNat : Int) = 45)) && decide (p.page < f.lines) && decide ((p.read.length : Int) < 12)) = false) : ¬ x ∈ canR f p := by
  rw [head_can hh ho]
  rintro (⟨h, h3, h4⟩ | ⟨rfl, h⟩)
  · have e : (decide ((x.toNat : Int) = 32) || decide ((x.toNat : Int) = 45)) = true := by rcases h with rfl | rfl <;> decide
    rw [e, decide_eq_true h3, decide_eq_true (show (p.read.length : Int) < 12 by omega)] at h2
    cases h2
  · have e : (decide (p.page > 0) || decide ((p.read.length : Int) = 0)) = true := by
      simp only [Bool.or_eq_true, decide_eq_true_eq]; exact h.imp id (fun h => by omega)
    rw [e] at h1
    exact absurd h1 (by decide)
theorem prT_no {f : BForm} {t : Byt} (h : prI f t = false) : prT f t = Ty.agg [Ty.when false (Ty.sl I64 f.widths), Ty.when false (Ty.int .i64 f.lines), Ty.when false (Ty.sl BRowE (runP f t).read)] := by unfold prT; rw [h]
theorem prT_yes {f : BForm} {t : Byt} {l : List BRow} (h : prI f t = true) (h2 : (runP f t).read = l) : prT f t = Ty.agg [Ty.when true (Ty.sl I64 f.widths), Ty.when true (Ty.int .i64 f.lines), Ty.when true (Ty.sl BRowE l)] := by unfold prT; rw [h, h2]
theorem row_new {f : BForm} {t : Byt} {b : Nat} {R P : Int} {W : Nat} {l : List BRow} {r : BRow} {m : Byt} (hf : FormOk f) (hb : b ≤ t.length) (hac : AccK f t b) (hl : (l.length : Int) = R) (h : rdK f t b = { ({ rows := R + 1, page := P + 1, begun := false, closed := false, column := W, offset := 0, number := 0, digits := false, read := l ++ [r], must := [] } : Rdr) with must := m }) : RowOk f r := by
  have ho := rdK_ok hf hb hac
  rw [h] at ho
  have := ho.done l.length (by show (l.length : Int) < R + 1; omega)
  rwa [show nth ({ rows := R + 1, page := P + 1, begun := false, closed := false, column := W, offset := 0, number := 0, digits := false, read := l ++ [r], must := m } : Rdr).read l.length = r from nth_snoc_new rfl] at this
theorem head_new {R P : Int} {W : Nat} {l : List BRow} {r : BRow} : HeadR ({ rows := R + 1, page := P + 1, begun := false, closed := false, column := W, offset := 0, number := 0, digits := false, read := l ++ [r], must := [] } : Rdr) :=
  ⟨rfl, rfl, rfl, fun h => absurd h (by simp), fun _ => by simp⟩
theorem cat_len {x : UInt8} {m : Byt} : 1 ≤ ([x] ++ m).length := by simp
theorem book_rows {f : BForm} {rows : List BRow} (h : ∀ r ∈ rows, RowOk f r) (hf : FormOk f) : SmallR rows := fun r hr => small_of hf (h r hr)
attribute [local irreducible] rrN rrI numK digK seg colLen numsK rowP barP colP runN runP rdK canR nextR prI prT matN lineB letB
attribute [local irreducible] dInt dBool dSl dPp dPtr dAgg dTup dClo dAny dEx dStr dGd dCells dVec dVs dRow dOp nth Tri Into TOps Ctr bodyPost Exit.then Exit.inBlock Code.wp Code.wpIn dWhen dPa dArr dMp dMap CtrG keepPost iterPost bodyPostM roundQ
set_option maxRecDepth 100000 in
theorem c_rParse (f : BForm) (hf : FormOk f) (t : Byt) (ht : t.length ≤ 1000000) : Ctr Tryz.prog 20 [frmT f, Ty.str (bs t)] (Ty.tup [prT f t, Ty.int .i64 (runN f t : Nat), Ty.bool (prI f t)]) := by
  refine fn_intro Tryz.func20 rfl (by decide) Tryz.ntmps20 (by exact Nat.le_of_ble_eq_true rfl) fun w0 M0 => ?_
  have hfw := hf.n2
  refine t_seq ?_
  refine t_region ?_
  refine r_box_agg rfl ?_
  refine r_alloc rfl (by exact List.cons_ne_nil _ _) rfl ?_
  refine asI rfl ?_
  refine asB rfl ?_
  refine r_nil ?_
  refine i_then ?_
  refine t_seq ?_
  refine t_region ?_
  refine r_load_ppN rfl rfl rfl (by exact Nat.le_of_ble_eq_true rfl) ?_
  refine r_build rfl rfl (by exact List.cons_ne_nil _ _) rfl (by repeat (first | exact (Parts.nil : Parts _ _ [] _) | (show Parts _ _ ((_, _) :: _) _; apply Parts.agg; (· exact (rfl : _ = Ty.agg _))))) (by exact (rfl : _ = some [_, _, _])) ?_
  refine r_alloc rfl (by exact List.cons_ne_nil _ _) rfl ?_
  refine r_storeN rfl rfl (by decide) rfl rfl rfl rfl rfl rfl ?_
  refine r_nil ?_
  refine i_then ?_
  refine t_seq ?_
  refine t_region ?_
  refine asI rfl ?_
  refine asI rfl ?_
  refine r_nil ?_
  refine i_then ?_
  refine t_seq ?_
  refine t_block ?_
  refine t_loop (fun (a : {a : Nat // a ≤ t.length ∧ AccK f t a ∧ HeadR (rdK f t a)}) => live [(1, Ty.str (bs t)), (2, Ty.pp (frmTys f)), (4, Ty.ptr 5 0), (7, Ty.ptr 8 0), (8, Ty.int .i64 (a.1 : Nat)), (9, Ty.int .i64 (rdK f t a.1).page)] [(5, Cont.cells 34 [Ty.ex (.slice none 0 0), Ty.int .i64 0, Ty.ex (.slice none 0 0)]), (8, Cont.cells 34 [Ty.sl I64 f.widths, Ty.int .i64 f.lines, Ty.row BRowE 67 155 (rdK f t a.1).read])]) (fun a => t.length - a.1) (⟨0, Nat.zero_le _, acc_00, head_00⟩) ?_ fun a => ?_
  · (refine Ent.mk' ?_ ?_ <;> (repeat' (first | exact allSub_zero | exact allTags_nil | exact subs_nil | refine allSub_succ' ?_ (Ty.sub_any _) | refine allSub_succ' ?_ (Ty.sub_refl _) | refine allTags_cons rfl (Cont.sub_refl _) ?_ | refine allTags_cons rfl (Cont.sub_subs ?_) ?_ | refine subs_cons ?_ (Ty.sub_refl _) | refine subs_cons ?_ ?_ | refine allSub_succ' ?_ ?_)))
    all_goals first | exact Ty.sub_int page_0 | (rw [show (rdK f t _).read = [] from read_0]; exact Ty.nil_row)
  ·
    have ha := a.2.1
    have hac := a.2.2.1
    have hh := a.2.2.2
    have ho := rdK_ok hf ha hac
    have hrows := head_rows hh ho
    have h12 := head_12 hh ho
    have hp0 := ho.p0
    have hp1 := ho.p1
    have hl2 := hf.l2
    refine t_seq ?_
    refine t_seq ?_
    refine t_region ?_
    refine mvI rfl ?_
    refine mvS' rfl ?_
    refine r_lenS rfl rfl rfl ?_
    refine r_bin rfl rfl rfl ?_
    refine r_nil ?_
    refine i_then ?_
    refine t_cond_dec rfl (fun hc1 => ?_) (fun hc1 => ?_)
    ·
      refine t_skip ?_
      refine i_then ?_
      refine t_block ?_
      refine t_block ?_
      refine t_seq ?_
      have hlt : a.1 < t.length := by omega
      refine t_region ?_
      refine mvS' rfl ?_
      refine mvI rfl ?_
      refine r_idxS (i := a.1) rfl rfl rfl rfl hlt ?_
      refine r_bin rfl rfl rfl ?_
      refine mvB rfl ?_
      apply r_guard (s := 30) rfl rfl rfl
      · intro hg; apply opT_of; (refine mvI rfl ?_); refine r_nil ?_; exact rfl
      · exact rfl
      · exact rfl
      apply r_guard (s := 30) rfl rfl rfl
      · intro hg; apply opT_strip (s := 31) rfl (by (rw [hg]; rfl)); apply opT_of; (refine r_bin rfl rfl rfl ?_); refine r_nil ?_; exact rfl
      · exact rfl
      · exact rfl
      apply r_guard (s := 30) rfl rfl rfl
      · intro hg; apply opT_strip (s := 32) rfl (by (rw [hg]; rfl)); apply opT_of; (refine mvB rfl ?_); refine r_nil ?_; exact rfl
      · exact rfl
      · exact rfl
      apply r_guardG (s := 33) rfl rfl rfl
      · intro hg1 hg2; apply opT_of; (refine r_field_ptr rfl rfl rfl rfl rfl (by decide) ?_); refine r_nil ?_; exact rfl
      · exact rfl
      · exact rfl
      apply r_guardG (s := 33) rfl rfl rfl
      · intro hg1 hg2; apply opT_strip (s := 34) rfl (by (rw [hg1, hg2]; rfl)); apply opT_of; (refine r_load_ptr rfl rfl (by decide) rfl rfl rfl ?_); refine r_nil ?_; exact rfl
      · exact rfl
      · exact rfl
      apply r_guardG (s := 33) rfl rfl rfl
      · intro hg1 hg2; apply opT_strip (s := 35) rfl (by (rw [hg1, hg2]; rfl)); apply opT_of; (refine r_len_row rfl rfl rfl ?_); refine r_nil ?_; exact rfl
      · exact rfl
      · exact rfl
      apply r_guardG (s := 33) rfl rfl rfl
      · intro hg1 hg2; apply opT_strip (s := 36) rfl (by (rw [hg1, hg2]; rfl)); apply opT_of; (refine r_bin rfl rfl rfl ?_); refine r_nil ?_; exact rfl
      · exact rfl
      · exact rfl
      apply r_guard (s := 30) rfl rfl rfl
      · intro hg; apply opT_strip (s := 33) rfl (by (rw [hg]; rfl)); apply opT_stripG (s := 37) rfl (by (rw [hg]; rfl)); apply opT_of; (refine r_or rfl rfl ?_); refine r_nil ?_; exact rfl
      · exact rfl
      · exact rfl
      refine r_and rfl rfl ?_
      refine asB rfl ?_
      refine r_nil ?_
      refine i_then ?_
      refine t_cond rfl (fun hc2 => ?_) (fun hc2 => ?_)
      ·
        refine t_seq ?_
        have he := eq_c hc2
        have hE := eq_line hlt hac hh ho he.1 he.2
        have hsl := lineB_len hf (book_rows hrows hf) (by omega)
        refine t_region ?_
        refine r_load_ppN rfl rfl rfl (by exact Nat.le_of_ble_eq_true rfl) ?_
        refine r_field_ptr rfl rfl rfl rfl rfl (by decide) ?_
        refine r_load_ptr rfl rfl (by decide) rfl rfl rfl ?_
        refine r_callL [155] (c_sumLine f hf (rdK f t a.1).read hrows h12 [61] (by decide)) rfl (by repeat (first | exact lends_nil | refine lends_cons (lend_pub rfl rfl) ?_ | refine lends_cons (lend_row rfl) ?_)) (plain_str _) ?_
        refine asS' rfl ?_
        refine r_nil ?_
        refine i_then ?_
        refine t_seq ?_
        refine t_region ?_
        refine mvS' rfl ?_
        refine mvI rfl ?_
        refine mvS' rfl ?_
        refine r_call (c_match t a.1 ([61] ++ lineB f (rdK f t a.1).read) ha ht) rfl rfl rfl rfl rfl ?_
        refine asI rfl ?_
        refine r_nil ?_
        refine i_then ?_
        refine t_seq ?_
        refine t_region ?_
        refine mvI rfl ?_
        refine mvI rfl ?_
        refine r_add rfl rfl (by omega) (by omega) ?_
        refine asI rfl ?_
        refine r_nil ?_
        refine i_then ?_
        refine t_seq ?_
        refine t_seq ?_
        generalize hn : matN (t.drop a.1) ([61] ++ lineB f (rdK f t a.1).read) = n at hE ⊢
        refine t_as (s := 8) rfl (Ty.sub_int (Int.natCast_add a.1 n).symm) ?_
        refine t_region ?_
        refine mvI rfl ?_
        refine mvS' rfl ?_
        refine r_lenS rfl rfl rfl ?_
        refine r_bin rfl rfl rfl ?_
        refine r_nil ?_
        refine i_then ?_
        refine t_cond_dec rfl (fun hc3 => ?_) (fun hc3 => ?_)
        ·
          refine t_seq ?_
          have hq := hE.2.2.1 (by omega)
          refine t_region ?_
          refine r_load_ptrN rfl rfl (by decide) rfl rfl (by exact Nat.le_of_ble_eq_true rfl) ?_
          refine mvI rfl ?_
          refine r_storeN rfl rfl (by decide) rfl rfl rfl rfl rfl rfl ?_
          refine asI rfl ?_
          refine asB rfl ?_
          refine r_nil ?_
          refine i_then ?_
          refine t_ret ?_
          refine i_then_ret ?_
          refine i_block_ret ?_
          refine i_block_ret ?_
          refine i_then_ret ?_
          refine i_block_ret ?_
          refine i_then_ret ?_
          refine i_rcell3 rfl rfl rfl rfl rfl rfl (by decide) rfl rfl rfl ?_ ?_ ?_
          all_goals skip
          all_goals first | (rw [prT_no hq.2]; exact ret_agg (rets_cons (ret_whenF rfl) (rets_cons (ret_whenF rfl) (rets_cons (ret_whenF rfl) rets_nil)))) | exact ret_eq rfl rfl (congrArg (fun m : Nat => Ty.int .i64 (m : Int)) hq.1.symm) | exact ret_eq rfl rfl (congrArg Ty.bool hq.2.symm)
        ·
          refine t_skip ?_
          refine i_then ?_
          refine t_seq ?_
          refine t_seq ?_
          have hr := hE.2.2.2 (by omega)
          refine t_region ?_
          refine mvI rfl ?_
          refine mvS' rfl ?_
          refine r_lenS rfl rfl rfl ?_
          refine r_bin rfl rfl rfl ?_
          refine r_nil ?_
          refine i_then ?_
          refine t_cond_dec rfl (fun hc4 => ?_) (fun hc4 => ?_)
          ·
            refine t_seq ?_
            have hq := foot_end hh hE.1 hE.2.1 hr hc4
            refine t_region ?_
            refine r_load_ptrN rfl rfl (by decide) rfl rfl (by exact Nat.le_of_ble_eq_true rfl) ?_
            refine mvI rfl ?_
            refine r_storeN rfl rfl (by decide) rfl rfl rfl rfl rfl rfl ?_
            refine asI rfl ?_
            refine asB rfl ?_
            refine r_nil ?_
            refine i_then ?_
            refine t_ret ?_
            refine i_then_ret ?_
            refine i_block_ret ?_
            refine i_block_ret ?_
            refine i_then_ret ?_
            refine i_block_ret ?_
            refine i_then_ret ?_
            refine i_rcell3 rfl rfl rfl rfl rfl rfl (by decide) rfl rfl rfl ?_ ?_ ?_
            all_goals skip
            all_goals first | (rw [prT_yes hq.2.1 hq.2.2]; exact ret_agg (rets_cons (ret_whenT rfl (ret_refl rfl rfl)) (rets_cons (ret_whenT rfl (ret_refl rfl rfl)) (rets_cons (ret_whenT rfl (ret_row (by decide))) rets_nil)))) | exact ret_eq rfl rfl (congrArg (fun m : Nat => Ty.int .i64 (m : Int)) hq.1.symm) | exact ret_eq rfl rfl (congrArg Ty.bool hq.2.1.symm)
          ·
            refine t_skip ?_
            refine i_then ?_
            refine t_seq ?_
            refine t_seq ?_
            refine t_region ?_
            refine mvI rfl ?_
            refine r_field_pp rfl rfl rfl rfl rfl (by decide) ?_
            refine r_load_pp rfl rfl rfl rfl ?_
            refine r_bin rfl rfl rfl ?_
            refine mvB rfl ?_
            apply r_guard (s := 67) rfl rfl rfl
            · intro hg; apply opT_of; (refine r_field_ptr rfl rfl rfl rfl rfl (by decide) ?_); refine r_nil ?_; exact rfl
            · exact rfl
            · exact rfl
            apply r_guard (s := 67) rfl rfl rfl
            · intro hg; apply opT_strip (s := 68) rfl (by (rw [hg]; rfl)); apply opT_of; (refine r_load_ptr rfl rfl (by decide) rfl rfl rfl ?_); refine r_nil ?_; exact rfl
            · exact rfl
            · exact rfl
            apply r_guard (s := 67) rfl rfl rfl
            · intro hg; apply opT_strip (s := 69) rfl (by (rw [hg]; rfl)); apply opT_of; (refine r_len_row rfl rfl rfl ?_); refine r_nil ?_; exact rfl
            · exact rfl
            · exact rfl
            apply r_guard (s := 67) rfl rfl rfl
            · intro hg; apply opT_strip (s := 70) rfl (by (rw [hg]; rfl)); apply opT_of; (refine r_bin rfl rfl rfl ?_); refine r_nil ?_; exact rfl
            · exact rfl
            · exact rfl
            refine r_or rfl rfl ?_
            refine r_nil ?_
            refine i_then ?_
            refine t_cond rfl (fun hc5 => ?_) (fun hc5 => ?_)
            ·
              refine t_seq ?_
              have hq := foot_stop hh ho hE.1 hE.2.1 hr hc4 hc5
              refine t_region ?_
              refine r_load_ptrN rfl rfl (by decide) rfl rfl (by exact Nat.le_of_ble_eq_true rfl) ?_
              refine mvI rfl ?_
              refine r_storeN rfl rfl (by decide) rfl rfl rfl rfl rfl rfl ?_
              refine asI rfl ?_
              refine asB rfl ?_
              refine r_nil ?_
              refine i_then ?_
              refine t_ret ?_
              refine i_then_ret ?_
              refine i_block_ret ?_
              refine i_block_ret ?_
              refine i_then_ret ?_
              refine i_block_ret ?_
              refine i_then_ret ?_
              refine i_rcell3 rfl rfl rfl rfl rfl rfl (by decide) rfl rfl rfl ?_ ?_ ?_
              all_goals skip
              all_goals first | (rw [prT_no hq.2]; exact ret_agg (rets_cons (ret_whenF rfl) (rets_cons (ret_whenF rfl) (rets_cons (ret_whenF rfl) rets_nil)))) | exact ret_eq rfl rfl (congrArg (fun m : Nat => Ty.int .i64 (m : Int)) hq.1.symm) | exact ret_eq rfl rfl (congrArg Ty.bool hq.2.symm)
            ·
              refine t_skip ?_
              refine i_then ?_
              refine t_seq ?_
              have hP := plus_line hh ho hE.1 hE.2.1 hr hc4 hc5
              refine t_region ?_
              refine r_load_ppN rfl rfl rfl (by exact Nat.le_of_ble_eq_true rfl) ?_
              refine r_field_ptr rfl rfl rfl rfl rfl (by decide) ?_
              refine r_load_ptr rfl rfl (by decide) rfl rfl rfl ?_
              refine r_callL [155] (c_sumLine f hf (rdK f t a.1).read hrows h12 [43] (by decide)) rfl (by repeat (first | exact lends_nil | refine lends_cons (lend_pub rfl rfl) ?_ | refine lends_cons (lend_row rfl) ?_)) (plain_str _) ?_
              refine asS' rfl ?_
              refine r_nil ?_
              refine i_then ?_
              refine t_seq ?_
              refine t_region ?_
              refine mvS' rfl ?_
              refine mvI rfl ?_
              refine mvS' rfl ?_
              refine r_call (c_match t (a.1 + n) ([43] ++ lineB f (rdK f t a.1).read) hE.1 ht) rfl rfl rfl rfl rfl ?_
              refine asI rfl ?_
              refine r_nil ?_
              refine i_then ?_
              refine t_seq ?_
              refine t_region ?_
              refine mvI rfl ?_
              refine mvI rfl ?_
              refine r_add rfl rfl (by omega) (by omega) ?_
              refine asI rfl ?_
              refine r_nil ?_
              refine i_then ?_
              refine t_seq ?_
              refine t_seq ?_
              generalize hn2 : matN (t.drop (a.1 + n)) ([43] ++ lineB f (rdK f t a.1).read) = n2 at hP ⊢
              refine t_as (s := 8) rfl (Ty.sub_int (Int.natCast_add (a.1 + n) n2).symm) ?_
              refine t_region ?_
              refine mvI rfl ?_
              refine mvS' rfl ?_
              refine r_lenS rfl rfl rfl ?_
              refine r_bin rfl rfl rfl ?_
              refine r_nil ?_
              refine i_then ?_
              refine t_cond_dec rfl (fun hc6 => ?_) (fun hc6 => ?_)
              ·
                refine t_seq ?_
                have hq := hP.2.2.1 (by omega)
                refine t_region ?_
                refine r_load_ptrN rfl rfl (by decide) rfl rfl (by exact Nat.le_of_ble_eq_true rfl) ?_
                refine mvI rfl ?_
                refine r_storeN rfl rfl (by decide) rfl rfl rfl rfl rfl rfl ?_
                refine asI rfl ?_
                refine asB rfl ?_
                refine r_nil ?_
                refine i_then ?_
                refine t_ret ?_
                refine i_then_ret ?_
                refine i_block_ret ?_
                refine i_block_ret ?_
                refine i_then_ret ?_
                refine i_block_ret ?_
                refine i_then_ret ?_
                refine i_rcell3 rfl rfl rfl rfl rfl rfl (by decide) rfl rfl rfl ?_ ?_ ?_
                all_goals skip
                all_goals first | (rw [prT_no hq.2]; exact ret_agg (rets_cons (ret_whenF rfl) (rets_cons (ret_whenF rfl) (rets_cons (ret_whenF rfl) rets_nil)))) | exact ret_eq rfl rfl (congrArg (fun m : Nat => Ty.int .i64 (m : Int)) hq.1.symm) | exact ret_eq rfl rfl (congrArg Ty.bool hq.2.symm)
              ·
                refine t_skip ?_
                refine i_then ?_
                have hPr := hP.2.2.2 (by omega)
                have hPH := plus_head hf hh ho hc5 hPr
                refine t_region ?_
                refine asI rfl ?_
                refine r_nil ?_
                refine i_block ?_
                refine i_block ?_
                refine i_round (⟨a.1 + n + n2, hP.1, hP.2.1, hPH⟩) ?_ (by show t.length - (a.1 + n + n2) < t.length - a.1; have := hP.1; have := cat_len (x := 61) (m := lineB f (rdK f t a.1).read); omega)
                (refine Ent.mk' ?_ ?_ <;> (repeat' (first | exact allSub_zero | exact allTags_nil | exact subs_nil | refine allSub_succ' ?_ (Ty.sub_any _) | refine allSub_succ' ?_ (Ty.sub_refl _) | refine allTags_cons rfl (Cont.sub_refl _) ?_ | refine allTags_cons rfl (Cont.sub_subs ?_) ?_ | refine subs_cons ?_ (Ty.sub_refl _) | refine subs_cons ?_ ?_ | refine allSub_succ' ?_ ?_)))
                all_goals skip
                all_goals first | exact Ty.sub_int (by rw [hPr]) | exact Ty.sub_row (by rw [hPr])
      ·
        refine t_seq ?_
        refine t_region ?_
        refine mvS' rfl ?_
        refine mvI rfl ?_
        refine r_idxS (i := a.1) rfl rfl rfl rfl hlt ?_
        refine r_bin rfl rfl rfl ?_
        refine mvB rfl ?_
        apply r_guard (s := 97) rfl rfl rfl
        · intro hg; apply opT_of; (refine mvS' rfl ?_); refine r_nil ?_; exact rfl
        · exact rfl
        · exact rfl
        apply r_guard (s := 97) rfl rfl rfl
        · intro hg; apply opT_of; (refine mvI rfl ?_); refine r_nil ?_; exact rfl
        · exact rfl
        · exact rfl
        apply r_guard (s := 97) rfl rfl rfl
        · intro hg; apply opT_strip (s := 98) rfl (by (rw [hg]; rfl)); apply opT_strip (s := 99) rfl (by (rw [hg]; rfl)); apply opT_of; (refine r_idxS (i := a.1) rfl rfl rfl rfl hlt ?_); refine r_nil ?_; exact rfl
        · exact rfl
        · exact rfl
        apply r_guard (s := 97) rfl rfl rfl
        · intro hg; apply opT_strip (s := 100) rfl (by (rw [hg]; rfl)); apply opT_of; (refine r_bin rfl rfl rfl ?_); refine r_nil ?_; exact rfl
        · exact rfl
        · exact rfl
        refine r_or rfl rfl ?_
        refine mvB rfl ?_
        apply r_guard (s := 103) rfl rfl rfl
        · intro hg; apply opT_of; (refine mvI rfl ?_); refine r_nil ?_; exact rfl
        · exact rfl
        · exact rfl
        apply r_guard (s := 103) rfl rfl rfl
        · intro hg; apply opT_of; (refine r_field_pp rfl rfl rfl rfl rfl (by decide) ?_); refine r_nil ?_; exact rfl
        · exact rfl
        · exact rfl
        apply r_guard (s := 103) rfl rfl rfl
        · intro hg; apply opT_strip (s := 105) rfl (by (rw [hg]; rfl)); apply opT_of; (refine r_load_pp rfl rfl rfl rfl ?_); refine r_nil ?_; exact rfl
        · exact rfl
        · exact rfl
        apply r_guard (s := 103) rfl rfl rfl
        · intro hg; apply opT_strip (s := 104) rfl (by (rw [hg]; rfl)); apply opT_strip (s := 106) rfl (by (rw [hg]; rfl)); apply opT_of; (refine r_bin rfl rfl rfl ?_); refine r_nil ?_; exact rfl
        · exact rfl
        · exact rfl
        refine r_and rfl rfl ?_
        refine mvB rfl ?_
        apply r_guard (s := 109) rfl rfl rfl
        · intro hg; apply opT_of; (refine r_field_ptr rfl rfl rfl rfl rfl (by decide) ?_); refine r_nil ?_; exact rfl
        · exact rfl
        · exact rfl
        apply r_guard (s := 109) rfl rfl rfl
        · intro hg; apply opT_strip (s := 110) rfl (by (rw [hg]; rfl)); apply opT_of; (refine r_load_ptr rfl rfl (by decide) rfl rfl rfl ?_); refine r_nil ?_; exact rfl
        · exact rfl
        · exact rfl
        apply r_guard (s := 109) rfl rfl rfl
        · intro hg; apply opT_strip (s := 111) rfl (by (rw [hg]; rfl)); apply opT_of; (refine r_len_row rfl rfl rfl ?_); refine r_nil ?_; exact rfl
        · exact rfl
        · exact rfl
        apply r_guard (s := 109) rfl rfl rfl
        · intro hg; apply opT_strip (s := 112) rfl (by (rw [hg]; rfl)); apply opT_of; (refine r_bin rfl rfl rfl ?_); refine r_nil ?_; exact rfl
        · exact rfl
        · exact rfl
        refine r_and rfl rfl ?_
        refine asB rfl ?_
        refine r_nil ?_
        refine i_then ?_
        refine t_cond rfl (fun hc7 => ?_) (fun hc7 => ?_)
        ·
          refine t_seq ?_
          have hw := rw_c hc7
          have hr1 : rdK f t (a.1 + 1) = rowP (rdK f t a.1).rows (rdK f t a.1).page (rdK f t a.1).read (decide (((nth t a.1).toNat : Int) = 45)) [] 0 0 0 false := by rw [rdK_succ hlt, head_row hh ho hw.1]
          have hac1 : AccK f t (a.1 + 1) := accK_succ hac ((head_can hh ho).2 (.inl hw))
          refine t_draw mixed rfl ?_
          refine r_load_ppN rfl rfl rfl (by exact Nat.le_of_ble_eq_true rfl) ?_
          refine mvS' rfl ?_
          refine mvI rfl ?_
          refine r_bin (ty := Ty.int .i64 ((a.1 + 1 : Nat) : Int)) rfl rfl (by show some _ = some _; rw [IntWalk.i64_in _ (by omega)]; rfl) ?_
          refine mvS' rfl ?_
          refine mvI rfl ?_
          refine r_idxS (i := a.1) rfl rfl rfl rfl hlt ?_
          refine r_bin rfl rfl rfl ?_
          refine r_call (c_readRow f hf t ht (a.1 + 1) (decide (((nth t a.1).toNat : Int) = 45)) (rdK f t a.1).rows (rdK f t a.1).page (rdK f t a.1).read (by omega) hr1 hac1) rfl rfl rfl rfl rfl ?_
          refine mvT rfl ?_
          refine r_extract rfl rfl ?_
          refine r_extract rfl rfl ?_
          refine r_extract rfl rfl ?_
          refine r_alloc rfl (by exact List.cons_ne_nil _ _) rfl ?_
          refine r_storeN rfl rfl (by decide) rfl rfl rfl rfl rfl rfl ?_
          refine asI rfl ?_
          refine asB rfl ?_
          refine r_nil ?_
          refine ⟨by kernel_rfl, ?_⟩
          refine i_then ?_
          refine t_seq ?_
          refine t_region ?_
          refine mvI rfl ?_
          refine asI rfl ?_
          refine r_nil ?_
          refine i_then ?_
          refine t_seq ?_
          refine t_seq ?_
          refine t_region ?_
          refine mvB rfl ?_
          refine r_not rfl ?_
          refine r_nil ?_
          refine i_then ?_
          refine t_cond rfl (fun hc8 => ?_) (fun hc8 => ?_)
          ·
            refine t_seq ?_
            have hq := row_stop hf hr1 (by omega) hac1 (by simpa using hc8)
            refine t_region ?_
            refine r_load_ptrN rfl rfl (by decide) rfl rfl (by exact Nat.le_of_ble_eq_true rfl) ?_
            refine mvI rfl ?_
            refine r_storeN rfl rfl (by decide) rfl rfl rfl rfl rfl rfl ?_
            refine asI rfl ?_
            refine asB rfl ?_
            refine r_nil ?_
            refine i_then ?_
            refine t_ret ?_
            refine i_then_ret ?_
            refine i_block_ret ?_
            refine i_block_ret ?_
            refine i_then_ret ?_
            refine i_block_ret ?_
            refine i_then_ret ?_
            refine i_rcell3 rfl rfl rfl rfl rfl rfl (by decide) rfl rfl rfl ?_ ?_ ?_
            all_goals skip
            all_goals first | (rw [prT_no hq.2]; exact ret_agg (rets_cons (ret_whenF rfl) (rets_cons (ret_whenF rfl) (rets_cons (ret_whenF rfl) rets_nil)))) | exact ret_eq rfl rfl (congrArg (fun m : Nat => Ty.int .i64 (m : Int)) hq.1.symm) | exact ret_eq rfl rfl (congrArg Ty.bool hq.2.symm)
          ·
            refine t_skip ?_
            refine i_then ?_
            refine t_seq ?_
            have hI : rrI f t (a.1 + 1) = true := by simpa using hc8
            have hRF := row_full hf hr1 hI
            have hrow := row_new hf hRF.1 hRF.2.1 (head_len hh ho) hRF.2.2.2
            refine t_asC (tg := 13) (D := Cont.cells 67 (BRowE.tys ⟨numsK f t (a.1 + 1) f.widths.length, decide (((nth t a.1).toNat : Int) = 45)⟩)) rfl (Cont.sub_subs ⟨Ty.when_sub hI, Ty.when_sub hI, trivial⟩) ?_
            have hM := must_line (t := t) (a := rrN f t (a.1 + 1)) (m := [letB f ⟨numsK f t (a.1 + 1) f.widths.length, decide (((nth t a.1).toNat : Int) = 45)⟩] ++ [10]) (by rw [hRF.2.2.1]; exact hRF.2.2.2) (by rw [hRF.2.2.1]; exact hRF.2.1) (by rw [hRF.2.2.1]; exact hRF.1)
            refine t_region ?_
            refine r_load_ppN rfl rfl rfl (by exact Nat.le_of_ble_eq_true rfl) ?_
            refine r_load_ptrN rfl rfl (by decide) rfl rfl (by exact Nat.le_of_ble_eq_true rfl) ?_
            refine r_call (c_rLetter f hf _ hrow) rfl rfl rfl rfl rfl ?_
            refine r_catS rfl rfl (by (simp <;> omega)) ?_
            refine asS' rfl ?_
            refine r_nil ?_
            refine i_then ?_
            refine t_seq ?_
            refine t_region ?_
            refine mvS' rfl ?_
            refine mvI rfl ?_
            refine mvS' rfl ?_
            refine r_call (c_match t (rrN f t (a.1 + 1)) ([letB f ⟨numsK f t (a.1 + 1) f.widths.length, decide (((nth t a.1).toNat : Int) = 45)⟩] ++ [10]) (by rw [hRF.2.2.1]; exact hRF.1) ht) rfl rfl rfl rfl rfl ?_
            refine asI rfl ?_
            refine r_nil ?_
            refine i_then ?_
            refine t_seq ?_
            have hML := hM.1
            refine t_region ?_
            refine mvI rfl ?_
            refine mvI rfl ?_
            refine r_add rfl rfl (by omega) (by omega) ?_
            refine asI rfl ?_
            refine r_nil ?_
            refine i_then ?_
            refine t_seq ?_
            refine t_seq ?_
            generalize hn : matN (t.drop (rrN f t (a.1 + 1))) ([letB f ⟨numsK f t (a.1 + 1) f.widths.length, decide (((nth t a.1).toNat : Int) = 45)⟩] ++ [10]) = n at hM ⊢
            refine t_as (s := 8) rfl (Ty.sub_int (Int.natCast_add (rrN f t (a.1 + 1)) n).symm) ?_
            refine t_region ?_
            refine mvI rfl ?_
            refine mvS' rfl ?_
            refine r_lenS rfl rfl rfl ?_
            refine r_bin rfl rfl rfl ?_
            refine r_nil ?_
            refine i_then ?_
            refine t_cond_dec rfl (fun hc9 => ?_) (fun hc9 => ?_)
            ·
              refine t_seq ?_
              have hq0 := hM.2.2.2.1 (by omega)
              have hq := And.intro hq0.1 (pr_no1 hq0.2)
              refine t_region ?_
              refine r_load_ptrN rfl rfl (by decide) rfl rfl (by exact Nat.le_of_ble_eq_true rfl) ?_
              refine mvI rfl ?_
              refine r_storeN rfl rfl (by decide) rfl rfl rfl rfl rfl rfl ?_
              refine asI rfl ?_
              refine asB rfl ?_
              refine r_nil ?_
              refine i_then ?_
              refine t_ret ?_
              refine i_then_ret ?_
              refine i_block_ret ?_
              refine i_block_ret ?_
              refine i_then_ret ?_
              refine i_block_ret ?_
              refine i_then_ret ?_
              refine i_rcell3 rfl rfl rfl rfl rfl rfl (by decide) rfl rfl rfl ?_ ?_ ?_
              all_goals skip
              all_goals first | (rw [prT_no hq.2]; exact ret_agg (rets_cons (ret_whenF rfl) (rets_cons (ret_whenF rfl) (rets_cons (ret_whenF rfl) rets_nil)))) | exact ret_eq rfl rfl (congrArg (fun m : Nat => Ty.int .i64 (m : Int)) hq.1.symm) | exact ret_eq rfl rfl (congrArg Ty.bool hq.2.symm)
            ·
              refine t_skip ?_
              refine i_then ?_
              refine t_seq ?_
              have hMr := hM.2.2.2.2 (by omega)
              have hMH : HeadR (rdK f t (rrN f t (a.1 + 1) + n)) := by rw [hMr]; exact head_new
              refine t_region ?_
              refine r_field_ptr rfl rfl rfl rfl rfl (by decide) ?_
              refine r_load_ptr rfl rfl (by decide) rfl rfl rfl ?_
              refine r_load_ptrN rfl rfl (by decide) rfl rfl (by exact Nat.le_of_ble_eq_true rfl) ?_
              refine r_buildSlice (E := BRowE) (xs := [⟨numsK f t (a.1 + 1) f.widths.length, decide (((nth t a.1).toNat : Int) = 45)⟩]) rfl rfl rfl rfl rfl (by decide) (by decide) (by repeat (first | exact (Parts.nil : Parts _ _ [] _) | (show Parts _ _ ((_, _) :: _) _; apply Parts.agg; (· exact (rfl : _ = Ty.agg _))))) (by exact rfl) rfl ?_
              refine r_append rfl rfl (by decide) rfl rfl rfl rfl rfl rfl (by decide) (by (simp <;> omega)) (by (simp <;> omega)) ?_
              refine r_field_ptr rfl rfl rfl rfl rfl (by decide) ?_
              refine r_store1 rfl rfl (by decide) rfl rfl (by exact (rfl : _ = Ty.row _ _ _ _)) rfl (by exact Nat.le_of_ble_eq_true rfl) rfl rfl (by exact rfl) ?_
              refine r_nil ?_
              refine i_then ?_
              refine t_region ?_
              refine mvI rfl ?_
              refine r_add rfl rfl (by omega) (by omega) ?_
              refine asI rfl ?_
              refine r_nil ?_
              refine i_block ?_
              refine i_block ?_
              refine i_round (⟨rrN f t (a.1 + 1) + n, hM.1, hM.2.2.1, hMH⟩) ?_ (by show t.length - (rrN f t (a.1 + 1) + n) < t.length - a.1; have := hM.1; have := hRF.2.2.1; omega)
              (refine Ent.mk' ?_ ?_ <;> (repeat' (first | exact allSub_zero | exact allTags_nil | exact subs_nil | refine allSub_succ' ?_ (Ty.sub_any _) | refine allSub_succ' ?_ (Ty.sub_refl _) | refine allTags_cons rfl (Cont.sub_refl _) ?_ | refine allTags_cons rfl (Cont.sub_subs ?_) ?_ | refine subs_cons ?_ (Ty.sub_refl _) | refine subs_cons ?_ ?_ | refine allSub_succ' ?_ ?_)))
              all_goals skip
              all_goals first | exact Ty.sub_int (by rw [hMr]) | exact Ty.sub_row (by rw [hMr])
        ·
          refine t_seq ?_
          have hq0 := (run_stop ha hac (df_c hh ho hc2 hc7)).1
          have hq := And.intro hq0 (pr_no2 hq0 hlt)
          refine t_region ?_
          refine r_load_ptrN rfl rfl (by decide) rfl rfl (by exact Nat.le_of_ble_eq_true rfl) ?_
          refine mvI rfl ?_
          refine r_storeN rfl rfl (by decide) rfl rfl rfl rfl rfl rfl ?_
          refine asI rfl ?_
          refine asB rfl ?_
          refine r_nil ?_
          refine i_then ?_
          refine t_ret ?_
          refine i_block_ret ?_
          refine i_block_ret ?_
          refine i_then_ret ?_
          refine i_block_ret ?_
          refine i_then_ret ?_
          refine i_rcell3 rfl rfl rfl rfl rfl rfl (by decide) rfl rfl rfl ?_ ?_ ?_
          all_goals skip
          all_goals first | (rw [prT_no hq.2]; exact ret_agg (rets_cons (ret_whenF rfl) (rets_cons (ret_whenF rfl) (rets_cons (ret_whenF rfl) rets_nil)))) | exact ret_eq rfl rfl (congrArg (fun m : Nat => Ty.int .i64 (m : Int)) hq.1.symm) | exact ret_eq rfl rfl (congrArg Ty.bool hq.2.symm)
    ·
      refine t_exit ?_
      refine i_then_exit ?_
      refine i_then_exit ?_
      refine i_block_exit rfl ?_
      refine i_then ?_
      refine t_seq ?_
      have hq0 := run_end ha hac (by omega)
      have hq := And.intro hq0.1 (pr_no1 (by rw [hq0.2]; exact head_not hh))
      refine t_region ?_
      refine r_load_ptrN rfl rfl (by decide) rfl rfl (by exact Nat.le_of_ble_eq_true rfl) ?_
      refine mvI rfl ?_
      refine r_storeN rfl rfl (by decide) rfl rfl rfl rfl rfl rfl ?_
      refine asI rfl ?_
      refine asB rfl ?_
      refine r_nil ?_
      refine i_then ?_
      refine t_ret ?_
      refine i_rcell3 rfl rfl rfl rfl rfl rfl (by decide) rfl rfl rfl ?_ ?_ ?_
      all_goals skip
      all_goals first | (rw [prT_no hq.2]; exact ret_agg (rets_cons (ret_whenF rfl) (rets_cons (ret_whenF rfl) (rets_cons (ret_whenF rfl) rets_nil)))) | exact ret_eq rfl rfl (congrArg (fun m : Nat => Ty.int .i64 (m : Int)) hq.1.symm) | exact ret_eq rfl rfl (congrArg Ty.bool hq.2.symm)
end Go.Proofs.YtjjndkenddigiaaGreatDoor

namespace Go.T
open Go Go.RowKit
def viewF (Mc : Tags) (g : Option Nat) (own : Nat → Option Nat) : Tags := fun b => match Mc b with | none => none | some u => if u < Zt then some 7000 else if some b = g then some 1000 else match own b with | some t => some t | none => some 5000
structure OwnF (Mc : Tags) (g : Option Nat) (own : Nat → Option Nat) : Prop where
  at' : ∀ b t, own b = some t → Mc b = some (Zt + b) ∧ some b ≠ g ∧ 1001 < t ∧ t < 1010
  inj : ∀ b b' t, own b = some t → own b' = some t → b = b'
section
variable {Mc : Tags} {g : Option Nat} {own : Nat → Option Nat} {b : Nat}
theorem viewF_none (h : viewF Mc g own b = none) : Mc b = none := by
  unfold viewF at h
  split at h
  · assumption
  · split at h
    · cases h
    · split at h
      · cases h
      · split at h <;> cases h
theorem viewF_none' (h : Mc b = none) : viewF Mc g own b = none := by simp [viewF, h]
theorem viewF_g {b : Nat} (h : Mc b = some (Zt + b)) : viewF Mc (some b) own b = some 1000 := by
  have : ¬ Zt + b < Zt := by omega
  simp [viewF, h, this]
theorem viewF_own {t : Nat} (ho : OwnF Mc g own) (h : own b = some t) : viewF Mc g own b = some t := by
  obtain ⟨h1, h2, _⟩ := ho.at' b t h
  have : ¬ Zt + b < Zt := by omega
  simp [viewF, h1, h2, this, h]
theorem viewF_old (h : Mc b = some (Zt + b)) (hg : some b ≠ g) (ho : own b = none) : viewF Mc g own b = some 5000 := by
  have : ¬ Zt + b < Zt := by omega
  simp [viewF, h, hg, this, ho]
theorem viewF_wf {w : World} (wf : Wf w Mc) (ho : OwnF Mc g own) : Wf w (viewF Mc g own) := by
  refine ⟨fun b t h => ?_, fun b b' t ht h h' => ?_, wf.amb.same fun b h => viewF_none' h⟩
  · cases hm : Mc b with
    | none => rw [viewF_none' hm] at h; cases h
    | some u => exact wf.lt b u hm
  · have key : ∀ b, viewF Mc g own b = some (t + 1) → (some b = g ∧ t + 1 = 1000) ∨ own b = some (t + 1) := fun b h => by
      unfold viewF at h
      split at h
      · cases h
      · split at h
        · injection h with h; omega
        · split at h
          · injection h with h; rename_i hg; exact .inl ⟨hg, h.symm⟩
          · split at h
            · rename_i q hq; injection h with h; subst h; exact .inr hq
            · injection h with h; omega
    rcases key b h with ⟨e1, e2⟩ | e1 <;> rcases key b' h' with ⟨e3, e4⟩ | e3
    · rw [← e3] at e1; injection e1
    · have := (ho.at' _ _ e3).2.2.1; omega
    · have := (ho.at' _ _ e1).2.2.1; omega
    · exact ho.inj _ _ _ e1 e3
theorem viewF_ck {w : World} {J : World → Tags → Prop} (wf : Wf w Mc) (z : ZOk Mc) (hj : J w Mc) : dCK J w (viewF Mc g own) := by
  refine ⟨Mc, wf, z, hj, fun b h => viewF_none h, fun b u _ h hu => ?_⟩
  unfold viewF at h
  split at h
  · cases h
  · rename_i v hv
    split at h
    · injection h with h; exact absurd h.symm hu
    · rw [hv]; congr 1; exact z b v hv (by omega)
end
def takeF (own : Nat → Option Nat) (t : Nat) : Prop := t < Zt ∨ ∃ b, t = Zt + b ∧ own b ≠ none
def yPostF (own : Nat → Option Nat) (w : World) (Mc : Tags) (J1 Jx : World → Tags → Prop) (e : Ending) (w' : World) : Prop :=
  ∃ M', Wf w' M' ∧ ZOk M' ∧ Le (takeF own) (takeF own) w Mc w' M' ∧ ((e = .returned (.bool true) ∧ J1 w' M') ∨ (e = .returned (.bool false) ∧ Jx w' M'))
def MoreF (P : Program) (f : FuncId) (T : Nat) (capTys args : List Ty) (J0 J1 Jx : World → Tags → Prop) : Prop :=
  (∃ fn, P.funcs[f]? = some fn ∧ (fn.name == "runtime.NumGoroutine") = false ∧ fn.body.isNone = false) ∧
  ∀ (w : World) (Mc : Tags) (g : Nat) (own : Nat → Option Nat) (vs cs cs' : List Value), Wf w Mc → ZOk Mc → OwnF Mc (some g) own → dens w (viewF Mc (some g) own) args vs → dens w Mc capTys cs → dens w Mc capTys cs' → Mc g = some (Zt + g) →
    w.heap[g]? = some (.cells #[.func (.func f) #[] (cs' ++ [gp g]).toArray] T (0, 0)) → J0 w Mc →
    Calls P f (vs ++ (cs ++ [gp g])).toArray w (yPostF own w Mc J1 Jx)
def FndC (P : Program) (fv : Value) (encs : List (List Ty)) (J : Nat → World → Tags → Prop) (Jx : World → Tags → Prop) : Prop :=
  ∃ fid cs, fv = .func (.func fid) #[] cs ∧ (∃ fn, P.funcs[fid]? = some fn ∧ (fn.name == "runtime.NumGoroutine") = false ∧ fn.body.isNone = false) ∧
  ∀ (k : Nat) (tys : List Ty), encs[k]? = some tys → ∀ w Mc vs, Wf w Mc → ZOk Mc → J k w Mc → dens w Mc tys vs → Calls P fid (vs ++ cs.toList).toArray w (yPost w Mc (J (k + 1)) Jx)
def oldF (Mc : Tags) (g : Nat) (own : Nat → Option Nat) (b : Nat) : Prop := Mc b = some (Zt + b) ∧ b ≠ g ∧ own b = none
section
variable {P : Program}
theorem moreF_intro {f : FuncId} {fn : Func} {c : Code} {T : Nat} {capTys args : List Ty} {J0 J1 Jx : World → Tags → Prop} {n : Nat} (h0 : Cb J0) (hf : P.funcs[f]? = some fn) (hb : fn.body = some c) (hn : (fn.name == "runtime.NumGoroutine") = false) (hnt : fn.ntmps = n) (hl : (args ++ (capTys ++ [Ty.ptr 1000 0])).length ≤ n)
    (h3 : depsOf capTys = []) (h4 : cdepsOf capTys = [])
    (h : ∀ w Mc g own cs', Wf w Mc → ZOk Mc → OwnF Mc (some g) own → Mc g = some (Zt + g) → w.heap[g]? = some (.cells #[.func (.func f) #[] (cs' ++ [gp g]).toArray] T (0, 0)) →
      Tri P ⟨n, w, viewF Mc (some g) own, [7000, 5000, 1000], .marks⟩ c (entryG (args ++ (capTys ++ [Ty.ptr 1000 0])) [(7000, .ck h0), (1000, .cells T [.ex (.func (.func f) #[] (cs' ++ [gp g]).toArray)]), (1001, .me g T (.func (.func f) #[] (cs' ++ [gp g]).toArray) capTys cs' h3 h4), (5000, .snap w (oldF Mc g own))]) (bodyPostM Fence.wide 0 P fn (yPostF own w Mc J1 Jx))) : MoreF P f T capTys args J0 J1 Jx := by
  refine ⟨⟨fn, hf, hn, by rw [hb]; rfl⟩, fun w Mc g own vs cs cs' wf z ho hv hcs hcs' hg hh hj => callsIn_wide.1 (callsIn_of_wp_marks (n := 0) hf hb trivial (h w Mc g own cs' wf z ho hg hh _ _ ?_))⟩
  have hnn : ∀ b, Mc b = none → viewF Mc (some g) own b = none := fun b hb => viewF_none' hb
  have hg0 : viewF Mc (some g) own g = some 1000 := viewF_g hg
  have hall : dens w (viewF Mc (some g) own) (args ++ (capTys ++ [Ty.ptr 1000 0])) (vs ++ (cs ++ [gp g])) := dens_append hv (dens_append (conv_nodeps hnn h3 h4 hcs) ⟨⟨g, hg0, rfl⟩, trivial⟩)
  have hlen := dens_len hall
  refine ⟨viewF Mc (some g) own, ⟨viewF_wf wf ho, Le.refl _ _ _ _, by simp [hnt]; simp at hlen hl; omega, Defs.nil⟩, fun c hc => ?_, fun x hx => ?_⟩
  · simp only [entryG]
    cases ha : (args ++ (capTys ++ [Ty.ptr 1000 0]))[c]? with
    | none => trivial
    | some ty =>
      obtain ⟨v, hv, hdv⟩ := dens_get hall c ty ha
      have : ((vs ++ (cs ++ [gp g])).toArray ++ Array.replicate (fn.ntmps - (vs ++ (cs ++ [gp g])).toArray.size) undef).getD c undef = v := by
        have hlt : c < (vs ++ (cs ++ [gp g])).length := (List.getElem?_eq_some_iff.1 hv).1
        rw [Array.getD_eq_getD_getElem?, Array.getElem?_append_left (by simpa using hlt), List.getElem?_toArray, hv]; rfl
      rw [this]; exact hdv
  · simp only [entryG, List.mem_cons, List.not_mem_nil, or_false] at hx
    rcases hx with rfl | rfl | rfl | rfl
    · exact ⟨rfl, viewF_ck wf z hj⟩
    · exact ⟨g, _, hg0, hh, rfl, trivial⟩
    · exact ⟨hg0, hh, conv_nodeps hnn h3 h4 hcs'⟩
    · intro b ⟨hb1, hb2, hb3⟩
      exact ⟨viewF_old hb1 (by simpa using hb2) hb3, rfl⟩
section
variable {A : As} {fn : Func} {n : Nat} {J1 Jx : World → Tags → Prop}
theorem fret_le {w w' : World} {Mc M Mc' : Tags} {g T : Nat} {own : Nat → Option Nat} {v : Value} {tys : List Ty} {cs : List Value} {h3 : depsOf tys = []} {h4 : cdepsOf tys = []} (z : ZOk Mc) (wf : Wf w Mc) (hg : w.heap[g]? = some (.cells #[v] T (0, 0)))
    (hb : Le (fun t => 1 ≤ t) (fun t => 1 ≤ t ∧ t ∉ [7000, 5000, 1000]) w (viewF Mc (some g) own) w' M) (hm : (Cont.me g T v tys cs h3 h4).den w' M 1001) (ho : (Cont.snap w (oldF Mc g own)).den w' M 5000) (k1 : ∀ b, M b = none → Mc' b = none) (k2 : ∀ b u, b < w'.heap.size → M b = some u → u ≠ 7000 → Mc' b = some (Zt + b)) :
    Le (takeF own) (takeF own) w Mc w' Mc' := by
  refine ⟨hb.size, hb.os, hb.tape, hb.out, fun b hlt h => ?_, fun b t h ht => ?_⟩
  · obtain ⟨a, c⟩ := hb.pub b hlt (viewF_none' h)
    exact ⟨k1 b a, c⟩
  · have hz : ¬ t < Zt := fun e => ht (.inl e)
    have e := z b t h (by omega)
    subst e
    have hlt : b < w'.heap.size := Nat.lt_of_lt_of_le (wf.lt b _ h) hb.size
    have hno : own b = none := Classical.byContradiction fun e => ht (.inr ⟨b, rfl, e⟩)
    by_cases e : b = g
    · subst e
      exact ⟨k2 b 1000 hlt hm.1 (by decide), fun _ => hm.2.1.trans hg.symm⟩
    · obtain ⟨a, c⟩ := ho b ⟨h, e, hno⟩
      exact ⟨k2 b 5000 hlt a (by decide), fun _ => c⟩
variable [T : Tab P]
theorem results_cell1 {tm ty b : Nat} {ti : TI} {v : Value} {w : World} {tmps : Array Value} (hr : fn.results = #[.cell tm ty]) (hT : T.tab[ty]? = some ti) (ha : ti.k.agg = false) (e : tmps.getD tm undef = .pointer (some ⟨b, 0, none⟩)) (hc : w.cell? ⟨b, 0, none⟩ = some v) : (results fn tmps).run P w = .ok v w := by
  have hload : (loadVar ty ⟨b, 0, none⟩).run P w = .ok v w := by
    have := run_load1 (P := P) hT ha (w := w) (b := b) (off := 0) hc
    simpa [Instr.loadAt, Instr.sureAddr] using this
  have e'' : tmps[tm]?.getD undef = .pointer (some ⟨b, 0, none⟩) := by rw [← Array.getD_eq_getD_getElem?]; exact e
  simp [results, hr, e'', asAddr, hload]
theorem cell_at {tm tg Tb : Nat} {ty : Ty} {w : World} {M : Tags} {x : Value} (wf : Wf w M) (hx : (Ty.ptr tg 0).den w M x) (hc : (Cont.cells Tb [ty]).den w M tg) (h1 : Tag1 tg) : ∃ b v, x = .pointer (some ⟨b, 0, none⟩) ∧ w.cell? ⟨b, 0, none⟩ = some v ∧ ty.den w M v := by
  obtain ⟨b, hb, e⟩ := hx
  obtain ⟨b', ⟨cs⟩, hb', hh, hds⟩ := hc
  obtain ⟨u, rfl⟩ : ∃ u, tg = u + 1 := ⟨tg - 1, by have := h1.1; omega⟩
  have := wf.inj b b' u h1.2 hb hb'
  subst this
  match cs, hds with
  | [v], ⟨hv, _⟩ => exact ⟨b, v, e, by simp [World.cell?, hh], hv⟩
theorem i_retFy {tm ty tg Tb g Tg : Nat} {ti : TI} {w : World} {Mc : Tags} {own : Nat → Option Nat} {v : Value} {tys : List Ty} {cs : List Value} {t : Ty} {h3 : depsOf tys = []} {h4 : cdepsOf tys = []} {h1 : Cb J1} {hx : Cb Jx} (z : ZOk Mc) (wf : Wf w Mc) (hg : w.heap[g]? = some (.cells #[v] Tg (0, 0))) (hr : fn.results = #[.cell tm ty]) (htm : Nat.blt tm n = true) (hs : A.slots tm = .ptr tg 0) (hc : A.tag tg = some (.cells Tb [t])) (h1' : Tag1 tg) (hT : T.tab[ty]? = some ti) (ha : ti.k.agg = false) (hm : A.tag 1001 = some (.me g Tg v tys cs h3 h4)) (ho : A.tag 5000 = some (.snap w (oldF Mc g own))) (ht : t.Sub (.yb true h1 hx)) :
    Into ⟨n, w, viewF Mc (some g) own, [7000, 5000, 1000], .plain⟩ A (bodyPost P fn (yPostF own w Mc J1 Jx) .ret) := by
  intro a w' ⟨M, ok, hsl, htg⟩
  have hd := hsl tm (by simpa using htm)
  rw [hs] at hd
  obtain ⟨b, x, e, hcl, hdx⟩ := cell_at (tm := tm) ok.wf hd (htg _ (tag_mem hc)) h1'
  have hres := results_cell1 (P := P) (fn := fn) hr hT ha e hcl
  rcases ht _ _ _ hdx with ⟨ev, Mc', wf', z', hj, k1, k2⟩ | ⟨ev, Mc', wf', z', hj, k1, k2⟩
  · exact ⟨ok.nodefers (by simp), _, hres, Mc', wf', z', fret_le (h3 := h3) (h4 := h4) z wf hg ok.base (htg _ (tag_mem hm)) (htg _ (tag_mem ho)) k1 k2, .inl ⟨by rw [ev], hj⟩⟩
  · exact ⟨ok.nodefers (by simp), _, hres, Mc', wf', z', fret_le (h3 := h3) (h4 := h4) z wf hg ok.base (htg _ (tag_mem hm)) (htg _ (tag_mem ho)) k1 k2, .inr ⟨by rw [ev]; rfl, hj⟩⟩
theorem i_retFt {tm ty tg Tb g Tg : Nat} {ti : TI} {w : World} {Mc : Tags} {own : Nat → Option Nat} {v : Value} {tys : List Ty} {cs : List Value} {h3 : depsOf tys = []} {h4 : cdepsOf tys = []} {J : World → Tags → Prop} {hj : Cb J} (z : ZOk Mc) (wf : Wf w Mc) (e : J = J1) (hg : w.heap[g]? = some (.cells #[v] Tg (0, 0))) (hr : fn.results = #[.cell tm ty]) (htm : Nat.blt tm n = true) (hs : A.slots tm = .ptr tg 0) (hc : A.tag tg = some (.cells Tb [.bool true])) (h1' : Tag1 tg) (hT : T.tab[ty]? = some ti) (ha : ti.k.agg = false) (hm : A.tag 1001 = some (.me g Tg v tys cs h3 h4)) (ho : A.tag 5000 = some (.snap w (oldF Mc g own))) (hk : A.tag 7000 = some (.ck hj)) :
    Into ⟨n, w, viewF Mc (some g) own, [7000, 5000, 1000], .plain⟩ A (bodyPost P fn (yPostF own w Mc J1 Jx) .ret) := by
  subst e
  intro a w' ⟨M, ok, hsl, htg⟩
  have hd := hsl tm (by simpa using htm)
  rw [hs] at hd
  obtain ⟨b, x, e, hcl, hdx⟩ := cell_at (tm := tm) ok.wf hd (htg _ (tag_mem hc)) h1'
  have hres := results_cell1 (P := P) (fn := fn) hr hT ha e hcl
  have ev : x = .bool true := hdx
  obtain ⟨_, Mc', wf', z', hj, k1, k2⟩ := htg _ (tag_mem hk)
  exact ⟨ok.nodefers (by simp), _, hres, Mc', wf', z', fret_le (h3 := h3) (h4 := h4) z wf hg ok.base (htg _ (tag_mem hm)) (htg _ (tag_mem ho)) k1 k2, .inl ⟨by rw [ev], hj⟩⟩
theorem i_retFx {tm ty tg Tb g Tg : Nat} {ti : TI} {w : World} {Mc : Tags} {own : Nat → Option Nat} {v : Value} {tys : List Ty} {cs : List Value} {h3 : depsOf tys = []} {h4 : cdepsOf tys = []} {hx : Cb Jx} (z : ZOk Mc) (wf : Wf w Mc) (hg : w.heap[g]? = some (.cells #[v] Tg (0, 0))) (hr : fn.results = #[.cell tm ty]) (htm : Nat.blt tm n = true) (hs : A.slots tm = .ptr tg 0) (hc : A.tag tg = some (.cells Tb [.bool false])) (h1' : Tag1 tg) (hT : T.tab[ty]? = some ti) (ha : ti.k.agg = false) (hm : A.tag 1001 = some (.me g Tg v tys cs h3 h4)) (ho : A.tag 5000 = some (.snap w (oldF Mc g own))) (hk : A.tag 7000 = some (.ck hx)) :
    Into ⟨n, w, viewF Mc (some g) own, [7000, 5000, 1000], .plain⟩ A (bodyPost P fn (yPostF own w Mc J1 Jx) .ret) := by
  intro a w' ⟨M, ok, hsl, htg⟩
  have hd := hsl tm (by simpa using htm)
  rw [hs] at hd
  obtain ⟨b, x, e, hcl, hdx⟩ := cell_at (tm := tm) ok.wf hd (htg _ (tag_mem hc)) h1'
  have hres := results_cell1 (P := P) (fn := fn) hr hT ha e hcl
  have ev : x = .bool false := hdx
  obtain ⟨_, Mc', wf', z', hj, k1, k2⟩ := htg _ (tag_mem hk)
  exact ⟨ok.nodefers (by simp), _, hres, Mc', wf', z', fret_le (h3 := h3) (h4 := h4) z wf hg ok.base (htg _ (tag_mem hm)) (htg _ (tag_mem ho)) k1 k2, .inr ⟨by rw [ev], hj⟩⟩
end
variable {fr : Fr} {ops : Array Oper} {A : As} {rest : List Oper} {K : As → List (As × Fx) → Prop} {d : Nat} {t ty' : TypeId} {p : String} {e : Array Edge}
theorem r_callFnd {c k : Nat} {fv : Value} {encs : List (List Ty)} {J : Nat → World → Tags → Prop} {Jx : World → Tags → Prop} (hJ : ∀ k, Cb (J k)) (hJx : Cb Jx) (hF : FndC P fv encs J Jx) {xs : List Operand} {ats : Array TypeId} {tys : List Ty}
    (hc : A.op fr (.tmp c) = .ex fv) (hx : opsTy A fr xs = tys) (hd : depsOf tys = []) (hdc : cdepsOf tys = []) (hk : encs[k]? = some tys) (ht : A.tag 7000 = some (.ck (hJ k)))
    (h : TOps P fr ops rest (A.after { d := some d, ty := .yb true (hJ (k + 1)) hJx, S := [7000], rs := c :: xs.flatMap opR, rt := [7000] }) fun A' l' => K A' ((A, { d := some d, ty := .yb true (hJ (k + 1)) hJx, S := [7000], rs := c :: xs.flatMap opR, rt := [7000] }) :: l')) :
    TOps P fr ops (⟨some d, .call ⟨.value (.tmp c), xs.toArray, ats⟩, t, p, e, none⟩ :: rest) A K := by
  refine ⟨{ d := some d, ty := .yb true (hJ (k + 1)) hJx, S := [7000], rs := c :: xs.flatMap opR, rt := [7000] }, ⟨rfl, by simp, by simp, by simp, fun a w M wf hsz hrd htg => ?_⟩, h⟩
  rw [if_pos (by simp [Region.wanted])]
  have hcv := op_den (x := .tmp c) (rs := c :: xs.flatMap opR) (fun u hu => by exact (List.mem_singleton.1 hu) ▸ List.mem_cons_self) hrd
  rw [hc] at hcv
  obtain ⟨fid, cs, efv, ⟨fn, hf, hn, hb⟩, hcall⟩ := hF
  subst efv
  have hcv : a.eval (.tmp c) = .func (.func fid) #[] cs := hcv
  obtain ⟨_, Mc, wfc, z, hj, h1, h2⟩ := htg _ (tag_mem ht) (by simp)
  have hv : dens w Mc tys (xs.map a.eval) := conv_nodeps h1 hd hdc (hx ▸ opsTy_dens (rs := c :: xs.flatMap opR) hrd fun x hx c hc => List.mem_cons_of_mem _ (List.mem_flatMap.2 ⟨x, hx, hc⟩))
  have hn' : fn.name ≠ "runtime.NumGoroutine" := by simpa using hn
  have hb' : fn.body ≠ none := fun h => by rw [h] at hb; cases hb
  refine wp_in_enter (f := fid) (args := (xs.map a.eval ++ cs.toList).toArray) (by simp [execOp, resolve, hcv, Deferred.ofValue, invoke, callFunc, hf, hn', hb']) ((hcall k tys hk w Mc _ wfc z hj hv).mono fun en w' ⟨Mc', wf', z', le, hor⟩ => ?_)
  obtain ⟨g1, g2, g3, g4⟩ := backY_ok wf wf' h1 h2 le
  rcases hor with ⟨rfl, hj'⟩ | ⟨rfl, hj'⟩
  · exact ⟨.bool true, rfl, .bool true, rfl, _, g1, g2, .inl ⟨rfl, Mc', wf', z', hj', g3, g4⟩, by simp⟩
  · exact ⟨.bool false, rfl, .bool false, rfl, _, g1, g2, .inr ⟨rfl, Mc', wf', z', hj', g3, g4⟩, by simp⟩
def ownM (M : Tags) (ρ : List (Nat × Nat)) (b : Nat) : Option Nat := (M b).bind fun t => ρ.lookup t
def handOk (fr : Fr) (ρ : List (Nat × Nat)) (tg : Nat) : Bool := reOk ρ && ρ.all fun x => !fr.pass.contains x.1 && (!(x.1 == 7000) && (!(x.1 == tg) && (Nat.blt 1001 x.2 && Nat.blt x.2 1010)))
theorem handOk_spec {fr : Fr} {ρ : List (Nat × Nat)} {tg : Nat} (h : handOk fr ρ tg = true) : reOk ρ = true ∧ ∀ x ∈ ρ, x.1 ∉ fr.pass ∧ x.1 ≠ 7000 ∧ x.1 ≠ tg ∧ 1001 < x.2 ∧ x.2 < 1010 := by
  simp only [handOk, Bool.and_eq_true, List.all_eq_true, Bool.not_eq_true', Nat.blt_eq, beq_eq_false_iff_ne] at h
  refine ⟨h.1, fun x hx => ?_⟩
  obtain ⟨h1, h2, h3, h4, h5⟩ := h.2 x hx
  exact ⟨by simpa using h1, h2, h3, h4, h5⟩
def backF (w : World) (ρ : List (Nat × Nat)) (M Mc' : Tags) : Tags := fun b => if b < w.heap.size ∧ ownM M ρ b = none then M b else (Mc' b).map fun _ => 7000
theorem hand_view {w : World} {M Mc : Tags} {ρ : List (Nat × Nat)} {tg g : Nat} {fr : Fr} (hok : handOk fr ρ tg = true) (wf : Wf w M) (hg : M g = some tg) (h1 : ∀ b, M b = none → Mc b = none) (h2 : ∀ b u, b < w.heap.size → M b = some u → u ≠ 7000 → Mc b = some (Zt + b)) :
    OwnF Mc (some g) (ownM M ρ) ∧ Re ρ M (viewF Mc (some g) (ownM M ρ)) := by
  obtain ⟨hr, hq⟩ := handOk_spec hok
  have part : ∀ b t, ownM M ρ b = some t → ∃ u, M b = some u ∧ (u, t) ∈ ρ := fun b t h => by
    obtain ⟨u, hu, hl⟩ := Option.bind_eq_some_iff.1 h
    exact ⟨u, hu, lookup_mem' hl⟩
  have how : OwnF Mc (some g) (ownM M ρ) := by
    refine ⟨fun b t h => ?_, fun b b' t h h' => ?_⟩
    · obtain ⟨u, hu, hm⟩ := part b t h
      obtain ⟨_, e2, e3, e4, e5⟩ := hq _ hm
      refine ⟨h2 b u (wf.lt b u hu) hu e2, fun e => ?_, e4, e5⟩
      injection e with e
      subst e
      rw [hu] at hg; injection hg with hg; exact e3 hg
    · obtain ⟨u, hu, hm⟩ := part b t h
      obtain ⟨u', hu', hm'⟩ := part b' t h'
      have e : u = u' := ((reOk_spec hr _ hm).2.2 _ hm').2 rfl
      subst e
      obtain ⟨v, rfl⟩ : ∃ v, u = v + 1 := ⟨u - 1, by have := (reOk_spec hr _ hm).1; omega⟩
      exact wf.inj b b' v (by have := reOk_fam hr hm; have := (hq _ hm).2.2.2.2; omega) hu hu'
  refine ⟨how, ⟨fun b h => viewF_none' (h1 b h), fun x hx b h => viewF_own how ?_⟩⟩
  unfold ownM
  rw [h]; exact mem_lookup' hr hx
theorem backF_ok {w w' : World} {M Mc Mc' : Tags} {ρ : List (Nat × Nat)} (wf : Wf w M) (wf' : Wf w' Mc') (h1 : ∀ b, M b = none → Mc b = none) (h2 : ∀ b u, b < w.heap.size → M b = some u → u ≠ 7000 → Mc b = some (Zt + b)) (le : Le (takeF (ownM M ρ)) (takeF (ownM M ρ)) w Mc w' Mc') :
    Wf w' (backF w ρ M Mc') ∧ Le (· ∈ [7000]) (· ∈ ρ.map Prod.fst) w M w' (backF w ρ M Mc') ∧ (∀ b, backF w ρ M Mc' b = none → Mc' b = none) ∧ ∀ b u, b < w'.heap.size → backF w ρ M Mc' b = some u → u ≠ 7000 → Mc' b = some (Zt + b) := by
  have pubK : ∀ b, M b = none → ownM M ρ b = none := fun b h => by simp [ownM, h]
  have keep : ∀ b u, M b = some u → u ∉ ρ.map Prod.fst → ownM M ρ b = none := fun b u h hu => by
    unfold ownM
    rw [h]
    show ρ.lookup u = none
    cases hl : ρ.lookup u with
    | none => rfl
    | some c => exact absurd (List.mem_map.2 ⟨_, lookup_mem' hl, rfl⟩) hu
  have stay : ∀ b u, M b = some u → ownM M ρ b = none → u ≠ 7000 → Mc' b = some (Zt + b) ∧ w'.heap[b]? = w.heap[b]? := fun b u h ho hu => by
    have ht : ¬ takeF (ownM M ρ) (Zt + b) := by
      rintro (h | ⟨q, h, hq⟩)
      · omega
      · have : q = b := by omega
        subst this; exact hq ho
    obtain ⟨a, c⟩ := le.own b _ (h2 b u (wf.lt b u h) h hu) ht
    exact ⟨a, c ht⟩
  unfold backF
  refine ⟨⟨fun b u h => ?_, fun b b' u ht1 h h' => ?_, wf.amb.of fun b hb hm => ⟨by simp [hb, hm, pubK b hm], (le.pub b hb (h1 b hm)).2⟩⟩, ⟨le.size, le.os, le.tape, le.out, fun b hb hm => ⟨by simp [hb, hm, pubK b hm], (le.pub b hb (h1 b hm)).2⟩, fun b u hm hk => ⟨?_, fun hs => ?_⟩⟩, fun b h => ?_, fun b u _ h hu => ?_⟩
  · split at h
    · rename_i hc; exact Nat.lt_of_lt_of_le hc.1 le.size
    · obtain ⟨v, hv, _⟩ := Option.map_eq_some_iff.1 h
      exact wf'.lt b v hv
  · have part : ∀ b, (if b < w.heap.size ∧ ownM M ρ b = none then M b else (Mc' b).map fun _ => 7000) = some (u + 1) → M b = some (u + 1) := fun b h => by
      split at h
      · exact h
      · obtain ⟨v, _, hv⟩ := Option.map_eq_some_iff.1 h
        omega
    exact wf.inj b b' u ht1 (part b h) (part b' h')
  · rw [if_pos ⟨wf.lt b u hm, keep b u hm hk⟩]; exact hm
  · have hu : u ≠ 7000 := fun e => hs (by simp [e])
    exact (stay b u hm (keep b u hm hk) hu).2
  · split at h
    · rename_i hc; exact (le.pub b hc.1 (h1 b h)).1
    · simpa using h
  · split at h
    · rename_i hc; exact (stay b u h hc.2 hu).1
    · obtain ⟨v, _, hv⟩ := Option.map_eq_some_iff.1 h
      exact absurd hv.symm hu
theorem run_callFuncF {f : FuncId} {T : Nat} {capTys args : List Ty} {J0 J1 Jx : World → Tags → Prop} (hF : MoreF P f T capTys args J0 J1 Jx) (vs : Array Value) (w : World) : (callFunc f vs).run P w = .ok (.enter f vs) w := by
  obtain ⟨⟨fn, hf, hn, hb⟩, _⟩ := hF
  have hn' : fn.name ≠ "runtime.NumGoroutine" := by simpa using hn
  have hb' : fn.body ≠ none := fun h => by rw [h] at hb; cases hb
  simp [callFunc, hf, hn', hb']
theorem r_callF (ρ : List (Nat × Nat)) {c f T g : Nat} {capTys args ss : List Ty} {cs' : List Value} {J0 J1 Jx : World → Tags → Prop} (h0 : Cb J0) (h1 : Cb J1) (hx : Cb Jx) (hM : MoreF P f T capTys args J0 J1 Jx) {h3 : depsOf capTys = []} {h4 : cdepsOf capTys = []} {xs : List Operand} {ats : Array TypeId}
    (hc : A.op fr (.tmp c) = .ex (.func (.func f) #[] (cs' ++ [gp g]).toArray)) (hxs : opsTy A fr xs = ss) (hl : Convs ρ ss args) (hok : handOk fr ρ 1000 = true)
    (hme : A.tag 1001 = some (.me g T (.func (.func f) #[] (cs' ++ [gp g]).toArray) capTys cs' h3 h4)) (hck : A.tag 7000 = some (.ck h0))
    (h : TOps P fr ops rest (A.after { d := some d, ty := .yb true h1 hx, S := [7000], K := ρ.map Prod.fst, rs := c :: xs.flatMap opR, rt := [7000, 1001] }) fun A' l' => K A' ((A, { d := some d, ty := .yb true h1 hx, S := [7000], K := ρ.map Prod.fst, rs := c :: xs.flatMap opR, rt := [7000, 1001] }) :: l')) :
    TOps P fr ops (⟨some d, .call ⟨.value (.tmp c), xs.toArray, ats⟩, t, p, e, none⟩ :: rest) A K := by
  obtain ⟨hro, hq⟩ := handOk_spec hok
  refine ⟨{ d := some d, ty := .yb true h1 hx, S := [7000], K := ρ.map Prod.fst, rs := c :: xs.flatMap opR, rt := [7000, 1001] }, ⟨rfl, by simp, by simp, fun u hu => by
    obtain ⟨x, hx, rfl⟩ := List.mem_map.1 hu
    exact ⟨(reOk_spec hro x hx).1, (hq x hx).1⟩, fun a w M wf hsz hrd htg => ?_⟩, h⟩
  rw [if_pos (by simp [Region.wanted])]
  have hcv := op_den (x := .tmp c) (rs := c :: xs.flatMap opR) (fun u hu => by exact (List.mem_singleton.1 hu) ▸ List.mem_cons_self) hrd
  rw [hc] at hcv
  have hcv : a.eval (.tmp c) = .func (.func f) #[] (cs' ++ [gp g]).toArray := hcv
  obtain ⟨e1, e2, e3⟩ := htg _ (tag_mem hme) (by simp)
  obtain ⟨_, Mc, wfc, z, hj, k1, k2⟩ := htg _ (tag_mem hck) (by simp)
  have hg : g < w.heap.size := (Array.getElem?_eq_some_iff.1 e2).1
  obtain ⟨how, hre⟩ := hand_view hok wf e1 k1 k2
  have hv : dens w (viewF Mc (some g) (ownM M ρ)) args (xs.map a.eval) := convs_dens wf (viewF_wf wfc how) hre hl (hxs ▸ opsTy_dens (rs := c :: xs.flatMap opR) hrd fun x hx c hc => List.mem_cons_of_mem _ (List.mem_flatMap.2 ⟨x, hx, hc⟩))
  have hcs : dens w Mc capTys cs' := conv_nodeps k1 h3 h4 e3
  have hcall := hM.2 w Mc g (ownM M ρ) _ cs' cs' wfc z how hv hcs hcs (k2 g 1000 hg e1 (by decide)) e2 hj
  refine wp_in_enter (f := f) (args := (xs.map a.eval ++ (cs' ++ [gp g])).toArray) (by simp [execOp, resolve, hcv, Deferred.ofValue, invoke, run_callFuncF hM]) (hcall.mono fun en w' ⟨Mc', wf', z', le, hor⟩ => ?_)
  obtain ⟨g1, g2, g3, g4⟩ := backF_ok wf wf' k1 k2 le
  rcases hor with ⟨rfl, hj'⟩ | ⟨rfl, hj'⟩
  · exact ⟨.bool true, rfl, .bool true, rfl, _, g1, g2, .inl ⟨rfl, Mc', wf', z', hj', g3, g4⟩, by simp⟩
  · exact ⟨.bool false, rfl, .bool false, rfl, _, g1, g2, .inr ⟨rfl, Mc', wf', z', hj', g3, g4⟩, by simp⟩
theorem r_callF0 (ρ : List (Nat × Nat)) {dst : Option Nat} {c f T tg : Nat} {capTys args ss : List Ty} {J0 J1 Jx : World → Tags → Prop} (h0 : Cb J0) (h1 : Cb J1) (hx : Cb Jx) (hM : MoreF P f T capTys args J0 J1 Jx) (h3 : depsOf capTys = []) (h4 : cdepsOf capTys = []) {xs : List Operand} {ats : Array TypeId}
    (hc : A.op fr (.tmp c) = .clo f (capTys ++ [.ptr tg 0])) (hxs : opsTy A fr xs = ss) (hl : Convs ρ ss args) (hok : handOk fr ρ tg = true)
    (hcell : A.tag tg = some (.cells T [.clo f (capTys ++ [.ptr tg 0])])) (htg1 : Tag1 tg) (hck : A.tag 7000 = some (.ck h0))
    (h : TOps P fr ops rest (A.after { d := dst, ty := Ty.any, S := [7000], K := ρ.map Prod.fst, sets := [(7000, Cont.ce h1 hx)], rs := c :: xs.flatMap opR, rt := [7000, tg] }) fun A' l' => K A' ((A, { d := dst, ty := Ty.any, S := [7000], K := ρ.map Prod.fst, sets := [(7000, Cont.ce h1 hx)], rs := c :: xs.flatMap opR, rt := [7000, tg] }) :: l')) :
    TOps P fr ops (⟨dst, .call ⟨.value (.tmp c), xs.toArray, ats⟩, t, p, e, none⟩ :: rest) A K := by
  obtain ⟨hro, hq⟩ := handOk_spec hok
  refine ⟨_, ⟨rfl, by simp, by simp, fun u hu => by
    obtain ⟨x, hx, rfl⟩ := List.mem_map.1 hu
    exact ⟨(reOk_spec hro x hx).1, (hq x hx).1⟩, fun a w M wf hsz hrd htg => ?_⟩, h⟩
  rw [if_pos (by simp [Region.wanted])]
  have hcv := op_den (x := .tmp c) (rs := c :: xs.flatMap opR) (fun u hu => by exact (List.mem_singleton.1 hu) ▸ List.mem_cons_self) hrd
  rw [hc] at hcv
  obtain ⟨⟨cl⟩, ev, hcl⟩ := hcv
  have split : ∀ (l : List Value), dens w M (capTys ++ [.ptr tg 0]) l → ∃ cs b, l = cs ++ [gp b] ∧ dens w M capTys cs ∧ M b = some tg := fun l hl => by
    have hlen := dens_len hl
    rw [List.length_append, List.length_singleton] at hlen
    have g1 := dens_take capTys.length hl
    have g2 := dens_drop capTys.length hl
    rw [List.take_left] at g1
    rw [List.drop_left] at g2
    have e1 : (l.drop capTys.length).length = 1 := by rw [List.length_drop]; omega
    obtain ⟨v, hv⟩ := List.length_eq_one_iff.1 e1
    rw [hv] at g2
    obtain ⟨⟨b, hb, ev⟩, _⟩ := g2
    exact ⟨_, b, by subst ev; have h9 := List.take_append_drop capTys.length l; rw [hv] at h9; exact h9.symm, g1, hb⟩
  obtain ⟨cs, g, rfl, hcs, hg⟩ := split _ hcl
  obtain ⟨b', ⟨cells⟩, hb', hh, hdd⟩ := htg _ (tag_mem hcell) (by simp)
  obtain ⟨u, rfl⟩ : ∃ u, tg = u + 1 := ⟨tg - 1, by have := htg1.1; omega⟩
  have hbg : g = b' := wf.inj g b' u htg1.2 hg hb'
  subst hbg
  obtain ⟨v', rfl⟩ : ∃ v', cells = [v'] := by
    have hlen := dens_len hdd
    exact List.length_eq_one_iff.1 (by simpa using hlen)
  obtain ⟨⟨⟨cl'⟩, ev', hcl'⟩, _⟩ := hdd
  obtain ⟨cs', g', rfl, hcs', hg'⟩ := split _ hcl'
  have hgg : g' = g := wf.inj g' g u htg1.2 hg' hg
  subst hgg
  subst ev'
  obtain ⟨_, Mc, wfc, z, hj, k1, k2⟩ := htg _ (tag_mem hck) (by simp)
  have hgs : g' < w.heap.size := (Array.getElem?_eq_some_iff.1 hh).1
  have hcv : a.eval (.tmp c) = .func (.func f) #[] (cs ++ [gp g']).toArray := ev
  obtain ⟨how, hre⟩ := hand_view hok wf hg k1 k2
  have hv : dens w (viewF Mc (some g') (ownM M ρ)) args (xs.map a.eval) := convs_dens wf (viewF_wf wfc how) hre hl (hxs ▸ opsTy_dens (rs := c :: xs.flatMap opR) hrd fun x hx c hc => List.mem_cons_of_mem _ (List.mem_flatMap.2 ⟨x, hx, hc⟩))
  have hcall := hM.2 w Mc g' (ownM M ρ) _ cs cs' wfc z how hv (conv_nodeps k1 h3 h4 hcs) (conv_nodeps k1 h3 h4 hcs') (k2 g' _ hgs hg (by have := htg1.2; omega)) hh hj
  refine wp_in_enter (f := f) (args := (xs.map a.eval ++ (cs ++ [gp g'])).toArray) (by simp [execOp, resolve, hcv, Deferred.ofValue, invoke, run_callFuncF hM]) (hcall.mono fun en w' ⟨Mc', wf', z', le, hor⟩ => ?_)
  obtain ⟨g1, g2, g3, g4⟩ := backF_ok wf wf' k1 k2 le
  rcases hor with ⟨rfl, hj'⟩ | ⟨rfl, hj'⟩
  · exact ⟨.bool true, rfl, .bool true, rfl, _, g1, g2, trivial, fun x hx => by rw [List.mem_singleton.1 hx]; exact ⟨rfl, .inl ⟨Mc', wf', z', hj', g3, g4⟩⟩⟩
  · exact ⟨.bool false, rfl, .bool false, rfl, _, g1, g2, trivial, fun x hx => by rw [List.mem_singleton.1 hx]; exact ⟨rfl, .inr ⟨Mc', wf', z', hj', g3, g4⟩⟩⟩
end
end Go.T

namespace Go.T
open Go Go.RowKit
def CtrFd (P : Program) (f : FuncId) (args : Value → List Ty) (encs : List (List Ty)) : Prop :=
  (∃ fn, P.funcs[f]? = some fn ∧ (fn.name == "runtime.NumGoroutine") = false ∧ fn.body.isNone = false) ∧
  ∀ fv J Jx, (∀ k, Cb (J k)) → Cb Jx → FndC P fv encs J Jx → ∀ w M us, Wf w M → ZOk M → dens w M (args fv) us → J 0 w M → Calls P f us.toArray w (izPost w M encs.length J Jx)
theorem CtrG.ex {P : Program} {f : FuncId} {F : List Nat} {pre post : List (Nat × Cont)} {args : List Ty} {res : Ty} (h : CtrG P f F pre args post res) : ∃ fn, P.funcs[f]? = some fn ∧ (fn.name == "runtime.NumGoroutine") = false ∧ fn.body.isNone = false := h.1
section
variable {P : Program}
theorem fnFd_intro {f : FuncId} {fn : Func} {c : Code} {args : Value → List Ty} {encs : List (List Ty)} {n : Nat} (hf : P.funcs[f]? = some fn) (hb : fn.body = some c) (hn : (fn.name == "runtime.NumGoroutine") = false) (hnt : fn.ntmps = n) (hl : ∀ v, (args v).length ≤ n) (hdd : ∀ v, depsOf (args v) = [] ∧ cdepsOf (args v) = [])
    (h : ∀ fv J Jx (hJ : ∀ k, Cb (J k)) (hJx : Cb Jx), FndC P fv encs J Jx → ∀ w0 Mc, Wf w0 Mc → ZOk Mc → Tri P ⟨n, w0, startM Mc none, [7000, 5000], .plain⟩ c (entryG (args fv) [(7000, .ck (hJ 0)), (5000, .snap w0 (oldZ Mc))]) (bodyPost P fn (izPost w0 Mc encs.length J Jx))) : CtrFd P f args encs := by
  refine ⟨⟨fn, hf, hn, by rw [hb]; rfl⟩, fun fv J Jx hJ hJx hF w Mc vs wf z hd hj => calls_of_wp hf hb (wpIn_wide.1 (h fv J Jx hJ hJx hF w Mc wf z _ _ ?_))⟩
  have hall : dens w (startM Mc none) (args fv) vs := conv_nodeps (fun b hb => startM_none' hb) (hdd fv).1 (hdd fv).2 hd
  have hlen := dens_len hall
  have hl := hl fv
  refine ⟨startM Mc none, ⟨startM_wf wf, Le.refl _ _ _ _, by simp [hnt, hlen]; omega, Defs.nil⟩, fun c hc => ?_, fun x hx => ?_⟩
  · simp only [entryG]
    cases ha : (args fv)[c]? with
    | none => trivial
    | some ty =>
      obtain ⟨v, hv, hdv⟩ := dens_get hall c ty ha
      have : (vs.toArray ++ Array.replicate (fn.ntmps - vs.toArray.size) undef).getD c undef = v := by
        have hlt : c < vs.length := (List.getElem?_eq_some_iff.1 hv).1
        rw [Array.getD_eq_getD_getElem?, Array.getElem?_append_left (by simpa using hlt)]
        simp [hv]
      rw [this]; exact hdv
  · simp only [entryG, List.mem_cons, List.not_mem_nil, or_false] at hx
    rcases hx with rfl | rfl
    · exact ⟨rfl, startM_ck wf z hj⟩
    · intro b hb
      refine ⟨?_, rfl⟩
      have : ¬ Zt + b < Zt := by omega
      have hb : Mc b = some (Zt + b) := hb
      simp [startM, hb, this]
theorem i_retFd {A : As} {fn : Func} {n m k : Nat} {w0 : World} {Mc : Tags} {J : Nat → World → Tags → Prop} {Jx : World → Tags → Prop} {hJ : ∀ k, Cb (J k)} {h1 : Cb (J k)} {hx : Cb Jx} (z : ZOk Mc) (wf : Wf w0 Mc) (e : k = m) (hr : fn.results = #[]) (ht : A.tag 7000 = some (.ce h1 hx)) (ho : A.tag 5000 = some (.snap w0 (oldZ Mc))) : Into ⟨n, w0, startM Mc none, [7000, 5000], .plain⟩ A (bodyPost P fn (izPost w0 Mc m J Jx) .normal) := by
  subst e
  intro a w' ⟨M, ok, hsl, htg⟩
  obtain ⟨_, h | h⟩ := htg _ (tag_mem ht)
  · obtain ⟨Mc', wf', z', hj, k1, k2⟩ := h
    exact ⟨ok.nodefers (by simp), _, results_none hr _ _ _, _, Mc', rfl, wf', z', zret_le z wf ok.base (htg _ (tag_mem ho)) k1 k2, .inl hj⟩
  · obtain ⟨Mc', wf', z', hj, k1, k2⟩ := h
    exact ⟨ok.nodefers (by simp), _, results_none hr _ _ _, _, Mc', rfl, wf', z', zret_le z wf ok.base (htg _ (tag_mem ho)) k1 k2, .inr hj⟩
def JF (p : Prop) (S K : List Nat) (w1 : World) (M1 : Tags) (tgs : List (Nat × Cont)) (w : World) (M : Tags) : Prop :=
  p ∧ Le (· ∈ S) (· ∈ K) w1 M1 w M ∧ ∀ x ∈ tgs, x.2.den w M x.1
theorem JF_cb {p : Prop} {S K : List Nat} {w1 : World} {M1 : Tags} {tgs : List (Nat × Cont)} (hM : ∀ b u, M1 b = some u → u < Zt) (ht : tagsOk tgs = true) : Cb (JF p S K w1 M1 tgs) := by
  intro w M w' M' wf' le ⟨hp, h1, h2⟩
  refine ⟨hp, ⟨Nat.le_trans h1.size le.size, le.os.trans h1.os, le.tape.trans h1.tape, le.out.trans h1.out, fun b hb hm => ?_, fun b t hm hk => ?_⟩, fun x hx => ?_⟩
  · obtain ⟨a, c⟩ := h1.pub b hb hm
    obtain ⟨a', c'⟩ := le.pub b (Nat.lt_of_lt_of_le hb h1.size) a
    exact ⟨a', c'.trans c⟩
  · have := hM b t hm
    obtain ⟨a, c⟩ := h1.own b t hm hk
    obtain ⟨a', c'⟩ := le.own b t a (by omega)
    exact ⟨a', fun hs => (c' (by omega)).trans (c hs)⟩
  · obtain ⟨⟨_, e2⟩, e3, e4⟩ := tagsOk_spec ht x hx
    exact x.2.mono le (fun t ht hz => by have := (e3 t ht).2; omega) (fun t ht hz => by have := (e4 t ht).2; omega) (by omega) (by omega) (h2 x hx)
theorem fnd_of {fid : FuncId} {encs : List (List Ty)} {caps : List Ty} {cs : Array Value} {S K mv F : List Nat} {w1 : World} {M1 : Tags} {px : Prop} {ok : Nat → Prop} {tgs : Nat → List (Nat × Cont)} {tgx : List (Nat × Cont)} {ρ : List (Nat × Nat)} {pre post : Nat → List (Nat × Cont)} {argsF : Nat → List Ty} {go : Nat → Bool}
    (hex : ∃ fn, P.funcs[fid]? = some fn ∧ (fn.name == "runtime.NumGoroutine") = false ∧ fn.body.isNone = false)
    (hG : ∀ k, ok k → k < encs.length → CtrG P fid F (pre k) (argsF k) (post k) (Ty.bool (go k)))
    (hcs : dens w1 M1 caps cs.toList) (hdk : disj (depsOf caps) K = true) (hds : disj (cdepsOf caps) S = true)
    (hr : reOk ρ = true) (hmv : ∀ x ∈ ρ, x.1 ∈ mv ∨ x.2 ∈ F) (hmr : ∀ t ∈ mv, ∃ g, (t, g) ∈ ρ) (hS : ∀ t ∈ ρ.map Prod.fst, t ∈ S ∧ t < Zt) (hK : ∀ t ∈ mv, t ∈ K ∧ t < Zt)
    (hpub : ∀ tys ∈ encs, depsOf tys = [] ∧ cdepsOf tys = [])
    (harg : ∀ k tys, encs[k]? = some tys → Convs ρ (tys ++ caps) (argsF k))
    (hpre : ∀ k, PreCs ⟨anyT, tgs k⟩ ρ (pre k))
    (hpost1 : ∀ k, ok k → go k = true → PostCs (post k) ρ (tgs (k + 1))) (hpostx : ∀ k, ok k → go k = false → PostCs (post k) ρ tgx)
    (hok1 : ∀ k, ok k → k < encs.length → go k = true → ok (k + 1)) (hokx : ∀ k, ok k → k < encs.length → go k = false → px) :
    FndC P (.func (.func fid) #[] cs) encs (fun k => JF (ok k) S K w1 M1 (tgs k)) (JF px S K w1 M1 tgx) := by
  refine ⟨fid, cs, rfl, hex, fun k tys hk w Mc vs wf z ⟨hok, hle, htg⟩ hv => ?_⟩
  have hkl : k < encs.length := (List.getElem?_eq_some_iff.1 hk).1
  have hcs' : dens w Mc caps cs.toList := dens_mono hle (fun t ht hk => disj_spec hdk t ht hk) (fun t ht hs => disj_spec hds t ht hs) hcs
  have wfg := giveG_wf hr wf
  have hre := giveG_re hr (M := Mc)
  have hc := (hG k hok hkl).2 w _ (vs ++ cs.toList) wfg (convs_dens wf wfg hre (harg k tys hk) (dens_append hv hcs')) (pre_get (A := ⟨anyT, tgs k⟩) wf wfg hre (fun x hx _ => htg x hx) (hpre k))
  refine hc.mono fun en w' ⟨r, M', he, wf', le, hden, hp⟩ => ?_
  obtain ⟨h1, h2, h3⟩ := callG_left (mv := mv) hr hmv hmr wf wf' le
  have hz : ZOk (backG w ρ mv Mc M') := fun b u h hu => by
    unfold backG at h
    split at h
    · exact z b u h hu
    · obtain ⟨q, _, hl⟩ := Option.bind_eq_some_iff.1 h
      have hm := lookup_mem' hl
      obtain ⟨x, hx, e⟩ := List.mem_map.1 hm
      injection e with e1 e2
      have := (hS x.1 (List.mem_map.2 ⟨x, hx, rfl⟩)).2
      omega
  have hleN : Le (· ∈ S) (· ∈ K) w1 M1 w' (backG w ρ mv Mc M') := (hle.trans h2).weaken (fun t ht => ht.elim id fun h => (hS t h).1) (fun t ht => ht.elim id fun h => (hK t h).1)
  have hleZ : Le (fun t => t < Zt) (fun t => t < Zt) w Mc w' (backG w ρ mv Mc M') := h2.weaken (fun t ht => (hS t ht).2) (fun t ht => (hK t ht).2)
  have er : r = .bool (go k) := hden
  cases hgo : go k with
  | true => exact ⟨_, h1, hz, hleZ, .inl ⟨by rw [he, er, hgo], hok1 k hok hkl hgo, hleN, fun x hx => (post_get wf' h1 h3 hp (hpost1 k hok hgo) x hx).2⟩⟩
  | false => exact ⟨_, h1, hz, hleZ, .inr ⟨by rw [he, er, hgo], hokx k hok hkl hgo, hleN, fun x hx => (post_get wf' h1 h3 hp (hpostx k hok hgo) x hx).2⟩⟩
variable {fr : Fr} {ops : Array Oper} {A : As} {rest : List Oper} {K' : As → List (As × Fx) → Prop} {d : Nat} {t ty' : TypeId} {p : String} {e : Array Edge}
theorem opT_callFd {dst : Option Nat} {f fid : FuncId} {args : Value → List Ty} {encs : List (List Ty)} {xs : List Operand} {ats : Array TypeId} {ss caps : List Ty} {S K mv F : List Nat} {px : Prop} {ok : Nat → Prop} {tgs : Nat → List (Nat × Cont)} {tgx sets : List (Nat × Cont)} {ρ : List (Nat × Nat)} {pre post : Nat → List (Nat × Cont)} {argsF : Nat → List Ty} {go : Nat → Bool}
    (hF : CtrFd P f args encs) (hx : opsTy A fr xs = ss) (hfv : ∀ w M vs, dens w M ss vs → ∃ cs : Array Value, dens w M caps cs.toList ∧ dens w M (args (.func (.func fid) #[] cs)) vs) (hdd : ∀ v, depsOf (args v) = [] ∧ cdepsOf (args v) = [])
    (hex : ∃ fn, P.funcs[fid]? = some fn ∧ (fn.name == "runtime.NumGoroutine") = false ∧ fn.body.isNone = false)
    (hG : ∀ k, ok k → k < encs.length → CtrG P fid F (pre k) (argsF k) (post k) (Ty.bool (go k)))
    (hdk : disj (depsOf caps) K = true) (hds : disj (cdepsOf caps) S = true) (hcz : inZ (depsOf caps) = true)
    (hr : reOk ρ = true) (hmv : ∀ x ∈ ρ, x.1 ∈ mv ∨ x.2 ∈ F) (hmr : ∀ t ∈ mv, ∃ g, (t, g) ∈ ρ) (hS : ∀ t ∈ ρ.map Prod.fst, t ∈ S ∧ t < Zt) (hK : ∀ t ∈ mv, t ∈ K ∧ t < Zt)
    (hpub : ∀ tys ∈ encs, depsOf tys = [] ∧ cdepsOf tys = [])
    (harg : ∀ k tys, encs[k]? = some tys → Convs ρ (tys ++ caps) (argsF k))
    (hpre : ∀ k, PreCs ⟨anyT, tgs k⟩ ρ (pre k))
    (hpost1 : ∀ k, ok k → go k = true → PostCs (post k) ρ (tgs (k + 1))) (hpostx : ∀ k, ok k → go k = false → PostCs (post k) ρ tgx)
    (hok0 : ok 0) (hok1 : ∀ k, ok k → k < encs.length → go k = true → ok (k + 1)) (hokx : ∀ k, ok k → k < encs.length → go k = false → px)
    (htk : ∀ k, tagsOk (tgs k) = true) (htx : tagsOk tgx = true) (hc0 : allTags A (tgs 0)) (hS1 : ∀ t ∈ S, 1 ≤ t) (hK1 : ∀ t ∈ K, 1 ≤ t ∧ t ∉ fr.pass)
    (hout : ∀ x ∈ sets, x.1 ∈ S ∨ x.1 ∈ K) (hts : tagsOk sets = true) (hend : ok encs.length → ∀ w M, (∀ x ∈ tgs encs.length, x.2.den w M x.1) → ∀ x ∈ sets, x.2.den w M x.1) (hendx : px → ∀ w M, (∀ x ∈ tgx, x.2.den w M x.1) → ∀ x ∈ sets, x.2.den w M x.1) :
    OpT P fr ops ⟨dst, .call ⟨.value (.func f), xs.toArray, ats⟩, t, p, e, none⟩ A { d := dst, ty := Ty.any, S := S, K := K, sets := sets, rs := xs.flatMap opR, rt := A.tags.map Prod.fst } := by
  refine ⟨rfl, hout, hS1, hK1, fun a w M wf hsz hrd htg => ?_⟩
  rw [if_pos (by simp [Region.wanted])]
  have hvs : dens w M ss (xs.map a.eval) := hx ▸ opsTy_dens (rs := xs.flatMap opR) hrd fun x hx c hc => List.mem_flatMap.2 ⟨x, hx, hc⟩
  obtain ⟨cs, hcs, hav⟩ := hfv w M _ hvs
  have wfz := foldZ_wf wf
  have hzz : ZOk (foldZ M) := fun b u h hu => by have := foldZ_u h; omega
  have hle : Le (fun t => Zt ≤ t) (fun t => Zt ≤ t) w M w (foldZ M) := ⟨Nat.le_refl _, rfl, rfl, rfl, fun b _ hm => ⟨foldZ_none hm, rfl⟩, fun b u hm hk => ⟨foldZ_lt hm (Nat.lt_of_not_le hk), fun _ => rfl⟩⟩
  have hlt : ∀ b u, foldZ M b = some u → u < Zt := fun b u h => foldZ_u h
  have hcs' : dens w (foldZ M) caps cs.toList := dens_mono (S := fun _ => False) (K := fun t => Zt ≤ t) ⟨Nat.le_refl _, rfl, rfl, rfl, hle.pub, fun b u hm hk => ⟨(hle.own b u hm hk).1, fun _ => rfl⟩⟩ (fun t ht hz => by have := (inZ_spec hcz t ht).2; omega) (fun _ _ h => h) hcs
  have htg0 : ∀ x ∈ tgs 0, x.2.den w (foldZ M) x.1 := fun x hx => by
    obtain ⟨C, hC, hsub⟩ := allTags_get hc0 x hx
    have hm := tag_mem hC
    obtain ⟨⟨_, e2⟩, e3, e4⟩ := tagsOk_spec (htk 0) x hx
    refine x.2.mono (S := fun _ => False) (K := fun t => Zt ≤ t) ⟨Nat.le_refl _, rfl, rfl, rfl, hle.pub, fun b u hm hk => ⟨(hle.own b u hm hk).1, fun _ => rfl⟩⟩ (fun t ht hz => by have := (e3 t ht).2; omega) (fun _ _ h => h) (fun h => h) (by omega) (hsub _ _ _ (htg _ hm (List.mem_map.2 ⟨_, hm, rfl⟩)))
  have hfnd := fnd_of (P := P) (px := px) (ok := ok) (w1 := w) (M1 := foldZ M) hex hG hcs' hdk hds hr hmv hmr hS hK hpub harg hpre hpost1 hpostx hok1 hokx
  have hcall := hF.2 _ _ _ (fun k => JF_cb hlt (htk k)) (JF_cb hlt htx) hfnd w (foldZ M) _ wfz hzz (conv_nodeps (fun b h => foldZ_none h) (hdd _).1 (hdd _).2 hav) ⟨hok0, Le.refl _ _ _ _, htg0⟩
  have hrun : (execOp a.eval ⟨dst, .call ⟨.value (.func f), xs.toArray, ats⟩, t, p, e, none⟩).run P w = .ok (.enter f (xs.map a.eval).toArray) w := by
    obtain ⟨⟨fn, hf, hn, hb⟩, _⟩ := hF
    have hn' : fn.name ≠ "runtime.NumGoroutine" := by simpa using hn
    have hb' : fn.body ≠ none := fun h => by rw [h] at hb; cases hb
    simp [execOp, resolve, Act.eval, Deferred.ofValue, invoke, callFunc, hf, hn', hb']
  refine wp_in_enter hrun (hcall.mono fun en w' ⟨r, M', he, wf', z', leZ, hor⟩ => ?_)
  -- what holds in either case
  have key : Le (· ∈ S) (· ∈ K) w (foldZ M) w' M' ∧ ∀ x ∈ sets, x.2.den w' M' x.1 := by
    rcases hor with ⟨h1, h2, h3⟩ | ⟨h1, h2, h3⟩
    · exact ⟨h2, hend h1 _ _ h3⟩
    · exact ⟨h2, hendx h1 _ _ h3⟩
  obtain ⟨kl, ks⟩ := key
  have kept : ∀ b u, M b = some u → Zt ≤ u → backZ w M M' b = some u := fun b u h hu => by unfold backZ; rw [h]; simp [wf.lt b u h, hu]
  have other : ∀ b, (∀ u, M b = some u → u < Zt) → backZ w M M' b = foldZ M' b := fun b h => by
    unfold backZ
    cases hm : M b with
    | none => rfl
    | some u => have := h u hm; simp only; rw [if_neg (by omega)]
  have high : ∀ b u, M b = some u → Zt ≤ u → M' b = some 0 ∧ w'.heap[b]? = w.heap[b]? := fun b u h hu => by
    obtain ⟨a1, c1⟩ := kl.own b 0 (foldZ_ge h hu) (fun h => by have := (hK1 0 h).1; omega)
    exact ⟨a1, c1 (fun h => by have := hS1 0 h; omega)⟩
  have wf2 : Wf w' (backZ w M M') := by
    refine ⟨fun b u h => ?_, fun b b' u ht1 h h' => ?_, wf.amb.of fun b hb hm => ?_⟩
    · unfold backZ at h
      split at h
      · split at h
        · rename_i hc; exact Nat.lt_of_lt_of_le hc.1 kl.size
        · exact (foldZ_wf wf').lt b u h
      · exact (foldZ_wf wf').lt b u h
    · have part : ∀ b, backZ w M M' b = some (u + 1) → foldZ M' b = some (u + 1) := fun b h => by
        unfold backZ at h
        split at h
        · split at h
          · injection h with h
            rename_i v hc hcc
            subst h
            exact absurd hcc.2 (by have : Zt = 1000000 := rfl; omega)
          · exact h
        · exact h
      exact (foldZ_wf wf').inj b b' u ht1 (part b h) (part b' h')
    · obtain ⟨a1, c1⟩ := kl.pub b hb (foldZ_none hm)
      exact ⟨by rw [other b (fun u hu => by rw [hm] at hu; cases hu)]; exact foldZ_none a1, c1⟩
  have le2 : Le (· ∈ S) (· ∈ K) w M w' (backZ w M M') := by
    refine ⟨kl.size, kl.os, kl.tape, kl.out, fun b hb hm => ?_, fun b u hm hk => ?_⟩
    · obtain ⟨a1, c1⟩ := kl.pub b hb (foldZ_none hm)
      exact ⟨by rw [other b (fun u hu => by rw [hm] at hu; cases hu)]; exact foldZ_none a1, c1⟩
    · rcases Nat.lt_or_ge u Zt with hu | hu
      · obtain ⟨a1, c1⟩ := kl.own b u (foldZ_lt hm hu) hk
        exact ⟨by rw [other b (fun v hv => by rw [hm] at hv; injection hv with hv; omega)]; exact foldZ_lt a1 hu, c1⟩
      · exact ⟨kept b u hm hu, fun _ => (high b u hm hu).2⟩
  refine ⟨r, he, r, rfl, _, wf2, le2, trivial, fun x hx => ?_⟩
  obtain ⟨⟨e1, e2⟩, e3, e4⟩ := tagsOk_spec hts x hx
  refine x.2.mono (w := w') (M := M') (S := fun _ => False) (K := fun u => Zt ≤ u ∨ u = 0) ⟨Nat.le_refl _, rfl, rfl, rfl, fun b hb hm => ⟨?_, rfl⟩, fun b u hm hk => ⟨?_, fun _ => rfl⟩⟩ (fun u hu hz => by have := e3 u hu; omega) (fun _ _ h => h) (fun h => h) (by omega) (ks x hx)
  · rcases hmb : M b with _ | v
    · rw [other b (fun u hu => by rw [hmb] at hu; cases hu)]; exact foldZ_none hm
    · rcases Nat.lt_or_ge v Zt with hv | hv
      · rw [other b (fun u hu => by rw [hmb] at hu; injection hu with hu; omega)]; exact foldZ_none hm
      · have := (high b v hmb hv).1; rw [this] at hm; cases hm
  · have hu : u < Zt := Nat.lt_of_not_le fun h => hk (.inl h)
    rcases hmb : M b with _ | v
    · rw [other b (fun u hu => by rw [hmb] at hu; cases hu)]; exact foldZ_lt hm hu
    · rcases Nat.lt_or_ge v Zt with hv | hv
      · rw [other b (fun u hu => by rw [hmb] at hu; injection hu with hu; omega)]; exact foldZ_lt hm hu
      · have := (high b v hmb hv).1
        rw [this] at hm
        injection hm with hm
        exact absurd (.inr hm.symm) hk
theorem r_op {o : Oper} {f : Fx} (h' : OpT P fr ops o A f) (h : TOps P fr ops rest (A.after f) fun A' l' => K' A' ((A, f) :: l')) : TOps P fr ops (o :: rest) A K' := ⟨f, h', h⟩
end
end Go.T

namespace Go.T
open Go Go.RowKit
section
variable {P : Program} {fr : Fr} {ops : Array Oper} {A : As} {rest : List Oper} {K : As → List (As × Fx) → Prop} {d : Nat} {t ty' : TypeId} {p : String} {e : Array Edge} {x y : Operand} {ti te ts : TI} {el tg : Nat} [T : Tab P]
theorem r_convRS {src : TypeId} {a : Byt} (hx : A.op fr x = .row UB el tg a) (hS : T.tab[src]? = some ts) (hks : ts.k = .slice el) (hT : T.tab[ty']? = some ti) (hk : ti.k = .string) (hu : P.underlying el = some (.int .u8))
    (h : TOps P fr ops rest (A.set d (.str (bs a))) fun A' l' => K A' ((A, { d := some d, ty := .str (bs a), rs := opR x }) :: l')) : TOps P fr ops (⟨some d, .convert src ty' x, t, p, e, none⟩ :: rest) A K :=
  tops_pure (opT_pure rfl rfl fun ac w M wf hr _ => by
    have hdx := op_den (x := x) (fun _ h => h) hr
    rw [hx] at hdx
    obtain ⟨_, D, _, hD, hkd, _⟩ := tab_info hS
    rw [hks] at hkd
    cases D <;> simp only [TK.of, reduceCtorEq, TK.slice.injEq] at hkd
    subst hkd
    obtain ⟨cs, hown, hd, hM⟩ := hdx
    rcases hown.2 with ⟨ex, h0⟩ | ⟨g, cap, cur, ex, _, hh, hn, hm, hsz, htk⟩
    · have ha : a = [] := List.length_eq_zero_iff.1 h0
      subst ha
      refine ⟨.string (bs []), ?_, rfl⟩
      simp only [execOp, ex, Sem.run_bind, run_convert_bytes_string w src ty' _ none 0 0 hD hu (tab_string hT hk)]
      rfl
    · have hrun := run_convert_bytes_back (P := P) w src ty' _ ⟨g, 0, none⟩ cap a hD hu (tab_string hT hk) (fun j hj => by
        rw [Addr.add_lit]
        have hj2 : j < a.length := hj
        obtain ⟨u, hu, hdu⟩ := dens_get hd (j * 1 + 0) _ (flat_elem UB a hj2 0 (Ty.int .u8 ((nth a j).toNat : Int)) rfl)
        have hu2 : u = .int .u8 ((nth a j).toNat : Int) := hdu
        subst hu2
        rw [← htk, List.getElem?_take] at hu
        split at hu
        · rw [Nat.mul_one, Nat.add_zero] at hu
          rw [nth_lt hj2] at hu
          simpa [World.cell?, hh] using hu
        · cases hu)
      exact ⟨.string (bs a), by simp only [execOp, ex, Sem.run_bind, hrun]; rfl, rfl⟩) h
theorem r_loadFact {D off Tb : Nat} {l tys : List Ty} {vs : List Value} {v : Value} {ty : Ty} {h1 : depsOf tys = []} {h2 : cdepsOf tys = []} (tg : Nat) (hx : A.op fr x = .ptr D off) (hc : A.tag D = some (.cells Tb l)) (hD : Tag1 D) (hT : T.tab[ty']? = some ti) (ha : ti.k.agg = false) (hl : l[off]? = some (.ex v)) (hv : A.tag tg = some (Cont.fact tys vs h1 h2)) (hvs : vs[off]? = some v) (hty : tys[off]? = some ty)
    (h : TOps P fr ops rest (A.set d ty) fun A' l => K A' ((A, { d := some d, ty := ty, rs := opR x, rt := [D, tg] }) :: l)) : TOps P fr ops (⟨some d, .load ty' x, t, p, e, none⟩ :: rest) A K :=
  tops_pure (opT_pure rfl rfl fun a w M wf hr ht => by
    have := op_den (x := x) (fun _ h => h) hr
    rw [hx] at this
    obtain ⟨b, hb, e⟩ := this
    obtain ⟨u, hu, hd⟩ := own_cell wf hD hb (ht _ (tag_mem hc) (by simp)) hl
    have hd : u = v := hd
    subst hd
    have hf : dens w M tys vs := ht _ (tag_mem hv) (by simp)
    obtain ⟨u2, hu2, hd2⟩ := dens_get hf off ty hty
    rw [hvs] at hu2
    injection hu2 with hu2
    subst hu2
    exact ⟨u, by simp [execOp, e, run_load1 hT ha hu], hd2⟩) h
theorem r_loadFactN {D Tb : Nat} {tys : List Ty} {vs : List Value} {h1 : depsOf tys = []} {h2 : cdepsOf tys = []} (tg : Nat) (hx : A.op fr x = .ptr D 0) (hc : A.tag D = some (.cells Tb (vs.map Ty.ex))) (hD : Tag1 D) (hT : T.tab[ty']? = some ti) (ha : ti.k.agg = true) (hl : vs.length = ti.size) (hv : A.tag tg = some (Cont.fact tys vs h1 h2))
    (h : TOps P fr ops rest (A.set d (.agg tys)) fun A' l => K A' ((A, { d := some d, ty := .agg tys, rs := opR x, rt := [D, tg] }) :: l)) : TOps P fr ops (⟨some d, .load ty' x, t, p, e, none⟩ :: rest) A K :=
  tops_pure (opT_pure rfl rfl fun a w M wf hr ht => by
    have := op_den (x := x) (fun _ h => h) hr
    rw [hx] at this
    obtain ⟨b, hb, e⟩ := this
    obtain ⟨b', cs, hb', hh, hd⟩ := ht _ (tag_mem hc) (by simp)
    obtain ⟨u, rfl⟩ : ∃ u, D = u + 1 := ⟨D - 1, by have := hD.1; omega⟩
    have := wf.inj b b' u hD.2 hb hb'
    subst this
    have hcs := dens_ex_eq hd
    have hf : dens w M tys vs := ht _ (tag_mem hv) (by simp)
    have hload := run_loadN (P := P) hT ha (w := w) (b := b) (off := 0) (cs := vs) hl fun j v hj => by
      rw [← hcs] at hj
      simpa [World.cell?, hh] using hj
    exact ⟨.agg vs.toArray, by simp [execOp, e, hload], _, rfl, by simpa using hf⟩) h
omit T in
theorem r_box_own1 {ty : Ty} (hx : A.op fr x = ty) (h1 : ty.one = true) (hp : fr.pass.contains (d + 1) = false) (hdp : disj ty.deps [d + 1] = true)
    (h : TOps P fr ops rest (A.after { d := some d, ty := .ptr (d + 1) 0, K := [d + 1], sets := [(d + 1, .cells ty' [ty])], rs := opR x }) fun A' l' => K A' ((A, { d := some d, ty := .ptr (d + 1) 0, K := [d + 1], sets := [(d + 1, .cells ty' [ty])], rs := opR x }) :: l')) :
    TOps P fr ops (⟨some d, .box ty' x, t, p, e, none⟩ :: rest) A K := by
  refine ⟨_, opT_mem rfl rfl (by simp) (by simp) (by simp at hp ⊢; exact hp) fun a w M wf hr _ => ?_, h⟩
  have hd := op_den (x := x) (fun _ h => h) hr
  rw [hx] at hd
  have hone := ty.isOne h1 hd
  have hcells : (a.eval x).cells = #[a.eval x] := by
    cases hv : a.eval x <;> first | rfl | (rw [hv] at hone; simp [Value.oneCell'] at hone)
  obtain ⟨h1, h2, h3⟩ := le_alloc wf (.cells #[a.eval x] ty') (d + 1)
  refine ⟨.pointer (some ⟨w.heap.size, 0, none⟩), w.alloc (.cells #[a.eval x] ty'), ?_, _, h1, h2, ⟨_, h3, rfl⟩, ?_⟩
  · simp [execOp, Instr.box, newVar, newRow, newObj, Sem.run, hcells]
  · intro x hx
    simp only [List.mem_singleton] at hx
    subst hx
    exact ⟨w.heap.size, #[a.eval _], h3, alloc_new _ _, ty.mono h2 (disj_spec hdp) (by intro _ _ h; cases h) hd, trivial⟩
end
section
variable {P : Program} {fr : Fr} {A : As} {Q : Exit → Act → World → Prop} {c : Code}
theorem t_factTo (tg' : Nat) {tg : Nat} {tys tys' : List Ty} {vs : List Value} {h1 : depsOf tys = []} {h2 : cdepsOf tys = []} (h3 : depsOf tys' = []) (h4 : cdepsOf tys' = []) (hf : A.tag tg = some (Cont.fact tys vs h1 h2)) (hs : ∀ w M, dens w M tys vs → dens w M tys' vs)
    (h : Tri P fr c ⟨A.slots, (tg', Cont.fact tys' vs h3 h4) :: A.tags⟩ Q) : Tri P fr c A Q := by
  intro a w ⟨M, ok, hsl, htg⟩
  refine h a w ⟨M, ok, hsl, fun x hx => ?_⟩
  rcases List.mem_cons.1 hx with rfl | hx
  · have : dens w M tys vs := htg _ (tag_mem hf)
    exact hs _ _ this
  · exact htg x hx
end
end Go.T

namespace Go.Proofs.YtjjndkenddigiaaGreatDoor
open Go Go.T
set_option maxHeartbeats 2000000
def finC (text : Byt) (fv : Value) : List Ty := [Ty.pp [Ty.str (bs text), Ty.ex fv]]
structure FIx (f : BForm) (text : Byt) (L0 : List (Byt × Rdr)) where
  s : Byt
  p : Rdr
  ok : RdrOk f p
  le : s.length ≤ text.length
  same : filS f p s (text.drop s.length) = L0
theorem cv_rdr {ρ : List (Nat × Nat)} {f : BForm} {p : Rdr} {a b : Nat} (h : (a, b) ∈ ρ) : Conv ρ (Ty.agg (rdrT f p a)) (Ty.agg (rdrT f p b)) :=
  cv_agg (cv_cons (cv_cons (cv_cons (cv_cons (cv_cons (cv_cons (cv_cons (cv_cons (cv_cons (cv_cons (cv_cons (cv_cons cv_nil (cv_pub rfl rfl)) (cv_row h)) (cv_pub rfl rfl)) (cv_pub rfl rfl)) (cv_pub rfl rfl)) (cv_pub rfl rfl)) (cv_pub rfl rfl)) (cv_pub rfl rfl)) (cv_pub rfl rfl)) (cv_pub rfl rfl)) (cv_pub rfl rfl)) (cv_pub rfl rfl))
theorem cc_rdrP {ρ : List (Nat × Nat)} {a b T : Nat} {f : BForm} {p : Rdr} {l : List Ty} (h : (a, b) ∈ ρ) (e : l = rdrPl f p) : ConvC ρ a (.cells T l) b (.cells T (rdrPl f p)) := by
  subst e
  exact cc_cells_eq h rfl rfl rfl
theorem fi_end {f : BForm} {text : Byt} {L0 : List (Byt × Rdr)} (x : FIx f text L0) (h : ¬ (x.s.length : Int) < (text.length : Int)) : L0 = if wholeR x.p = true then [(x.s, x.p)] else [] := by
  have e : text.drop x.s.length = [] := List.drop_of_length_le (by omega)
  have := x.same
  rw [e, fil_nil] at this
  exact this.symm
theorem fi_stop {f : BForm} {text : Byt} {L0 : List (Byt × Rdr)} (x : FIx f text L0) (h : x.s.length < text.length) (h2 : ¬ ((nth text x.s.length).toNat : Int) = 63) (h3 : ¬ nth text x.s.length ∈ canR f x.p) : L0 = [] := by
  rw [← x.same, drop_cons' h]
  exact fil_stop (fun e => h2 (by rw [e]; rfl)) h3
def FIx.next {f : BForm} {text : Byt} {L0 : List (Byt × Rdr)} (x : FIx f text L0) (h : x.s.length < text.length) (h2 : ¬ ((nth text x.s.length).toNat : Int) = 63) (h3 : nth text x.s.length ∈ canR f x.p) : FIx f text L0 :=
  ⟨x.s ++ [nth text x.s.length], nextR f x.p (nth text x.s.length), next_ok x.ok h3, by simp; omega, by
    have h0 := x.same
    rw [drop_cons' h, fil_step (fun e => h2 (by rw [e]; rfl)) h3] at h0
    simpa using h0⟩
theorem fi_torn {f : BForm} {text : Byt} {L0 : List (Byt × Rdr)} (x : FIx f text L0) (h : x.s.length < text.length) (h2 : ((nth text x.s.length).toNat : Int) = 63) : filS f x.p x.s (63 :: text.drop (x.s.length + 1)) = L0 := by
  have e : nth text x.s.length = 63 := UInt8.toNat_inj.1 (by show _ = 63; omega)
  have h0 := x.same
  rw [drop_cons' h, e] at h0
  exact h0
theorem fi_sub {f : BForm} {text : Byt} {L0 AL : List (Byt × Rdr)} {m0 : Nat} (x : FIx f text L0) (h : x.s.length < text.length) (h2 : ((nth text x.s.length).toNat : Int) = 63) (hp : L0 <+: AL.drop m0) {k : Nat} (hk : k < (canR f x.p).length) :
    filS f (nextR f x.p (nth (canR f x.p) k)) (x.s ++ [nth (canR f x.p) k]) (text.drop (x.s ++ [nth (canR f x.p) k]).length) <+: AL.drop (m0 + (upF f x.p x.s (text.drop (x.s.length + 1)) k).length) := by
  have h1 := up_pre (f := f) (p := x.p) (s := x.s) (t := text.drop (x.s.length + 1)) hk
  rw [fi_torn x h h2] at h1
  have := pre_drop (List.IsPrefix.trans h1 hp)
  simpa using this
theorem fi_up {f : BForm} {text : Byt} {L0 : List (Byt × Rdr)} {m0 : Nat} (x : FIx f text L0) {k : Nat} (hk : k < (canR f x.p).length) :
    m0 + (upF f x.p x.s (text.drop (x.s.length + 1)) k).length + (filS f (nextR f x.p (nth (canR f x.p) k)) (x.s ++ [nth (canR f x.p) k]) (text.drop (x.s ++ [nth (canR f x.p) k]).length)).length = m0 + (upF f x.p x.s (text.drop (x.s.length + 1)) (k + 1)).length := by
  rw [up_succ hk, List.length_append]; simp; omega
theorem plain_UB : ∀ x : UInt8, ∀ t ∈ UB.tys x, t.Plain := fun x t ht => by
  rw [show t = Ty.int .u8 (x.toNat : Int) from List.mem_singleton.1 ht]; exact plain_int _ _
attribute [local irreducible] figC canR numF digF' pushN letB lineB figR nextR stepQ sumL wholeR filS upF fillR
attribute [local irreducible] dInt dBool dSl dPp dPtr dAgg dTup dClo dAny dEx dStr dGd dCells dVec dVs dRow dOp nth Tri Into TOps Ctr bodyPost Exit.then Exit.inBlock Code.wp Code.wpIn dWhen dPa dArr dMp dMap CtrG keepPost iterPost bodyPostM roundQ
set_option maxRecDepth 100000 in
theorem k_Clone_rows (l : List BRow) (h : l.length ≤ 1000) : CtrG Tryz.prog 129 [] [] [Ty.sl BRowE l] [] (Ty.row BRowE 66 6 l) := by
  refine fnG_intro Tryz.func129 rfl (by decide) Tryz.ntmps129 (by exact Nat.le_of_ble_eq_true rfl) fun w0 M0 => ?_
  refine t_seq ?_
  refine t_region ?_
  refine asX rfl ?_
  refine r_nil ?_
  refine i_then ?_
  refine t_seq ?_
  refine t_seq ?_
  refine t_region ?_
  refine mvS rfl ?_
  refine r_eqnil und25 rfl ?_
  refine r_nil ?_
  refine i_then ?_
  refine t_cond_nb rfl (fun hc1 => ?_) (fun hc1 => ?_)
  ·
    refine t_seq ?_
    refine t_region ?_
    refine asX rfl ?_
    refine r_nil ?_
    refine i_then ?_
    refine t_ret ?_
    refine i_then_ret ?_
    refine g_ret1 [6] rfl rfl (by decide) (by repeat (exact rc_nil)) ?_
    all_goals skip
    all_goals (obtain rfl : l = [] := hc1; exact rg_cv cv_nilrow)
  ·
    refine t_skip ?_
    refine i_then ?_
    refine t_seq ?_
    refine t_region ?_
    refine r_buildRow (E := BRowE) rfl rfl rfl rfl ?_
    refine mvS rfl ?_
    refine r_append rfl rfl (by decide) rfl rfl rfl rfl rfl rfl (by decide) (by (simp <;> omega)) (by (simp <;> omega)) ?_
    refine asR rfl ?_
    refine r_nil ?_
    refine i_then ?_
    refine t_ret ?_
    refine g_ret1 [6] rfl rfl (by decide) (by repeat (exact rc_nil)) ?_
    all_goals skip
    all_goals exact rg_cv (cv_row (by decide))
set_option maxRecDepth 100000 in
theorem k_Clone_u8 (l : Byt) (h : l.length ≤ 65536) : CtrG Tryz.prog 130 [] [] [Ty.sl UB l] [] (Ty.row UB 5 6 l) := by
  refine fnG_intro Tryz.func130 rfl (by decide) Tryz.ntmps130 (by exact Nat.le_of_ble_eq_true rfl) fun w0 M0 => ?_
  refine t_seq ?_
  refine t_region ?_
  refine asX rfl ?_
  refine r_nil ?_
  refine i_then ?_
  refine t_seq ?_
  refine t_seq ?_
  refine t_region ?_
  refine mvS rfl ?_
  refine r_eqnil und81 rfl ?_
  refine r_nil ?_
  refine i_then ?_
  refine t_cond_nb rfl (fun hc1 => ?_) (fun hc1 => ?_)
  ·
    refine t_seq ?_
    refine t_region ?_
    refine asX rfl ?_
    refine r_nil ?_
    refine i_then ?_
    refine t_ret ?_
    refine i_then_ret ?_
    refine g_ret1 [6] rfl rfl (by decide) (by repeat (exact rc_nil)) ?_
    all_goals skip
    all_goals (obtain rfl : l = [] := hc1; exact rg_cv cv_nilrow)
  ·
    refine t_skip ?_
    refine i_then ?_
    refine t_seq ?_
    refine t_region ?_
    refine r_buildRow (E := UB) rfl rfl rfl rfl ?_
    refine mvS rfl ?_
    refine r_append rfl rfl (by decide) rfl rfl rfl rfl rfl rfl (by decide) (by (simp <;> omega)) (by (simp <;> omega)) ?_
    refine asR rfl ?_
    refine r_nil ?_
    refine i_then ?_
    refine t_ret ?_
    refine g_ret1 [6] rfl rfl (by decide) (by repeat (exact rc_nil)) ?_
    all_goals skip
    all_goals exact rg_cv (cv_row (by decide))
set_option maxRecDepth 100000 in
theorem k_canP (f : BForm) (p : Rdr) : CtrG Tryz.prog 128 [1000] [(1000, Cont.cells 177 (rdrPl f p))] [Ty.ptr 1000 0] [(1000, Cont.cells 177 (rdrPl f p))] (Ty.clo 151 [Ty.pp [Ty.ptr 1000 0]]) := by
  refine fnG_intro Tryz.func128 rfl (by decide) Tryz.ntmps128 (by exact Nat.le_of_ble_eq_true rfl) fun w0 M0 => ?_
  refine t_seq ?_
  refine t_region ?_
  refine r_box_one (ty := Ty.ptr 1000 0) rfl rfl ?_
  refine asX rfl ?_
  refine r_nil ?_
  refine i_then ?_
  refine t_seq ?_
  refine t_region ?_
  refine r_makeFunc rfl ?_
  refine asF rfl ?_
  refine r_nil ?_
  refine i_then ?_
  refine t_ret ?_
  refine g_ret1 [1000] rfl rfl (by decide) ?_ ?_
  exact rc_cons rfl (cc_rdrP (by decide) rfl) rc_nil
  all_goals skip
  all_goals exact rg_cv (cv_clo (cv_cons cv_nil (cv_pp (cv_cons cv_nil (cv_ptr (by decide))))))
set_option maxRecDepth 100000 in
theorem c_wholeP (f : BForm) (p : Rdr) : Ctr Tryz.prog 121 [Ty.pp (rdrPl f p)] (Ty.bool (wholeR p)) := by
  refine fn_intro Tryz.func121 rfl (by decide) Tryz.ntmps121 (by exact Nat.le_of_ble_eq_true rfl) fun w0 M0 => ?_
  refine t_seq ?_
  refine t_region ?_
  refine asB rfl ?_
  refine r_nil ?_
  refine i_then ?_
  refine t_seq ?_
  refine t_region ?_
  refine mvP rfl ?_
  refine r_nilCheck_pp rfl ?_
  refine r_field_pp rfl rfl rfl rfl rfl (by decide) ?_
  refine r_field_pp rfl rfl rfl rfl rfl (by decide) ?_
  refine r_load_pp rfl rfl rfl rfl ?_
  refine mvB rfl ?_
  apply r_guard (s := 8) rfl rfl rfl
  · intro hg; apply opT_of; (refine mvP rfl ?_); refine r_nil ?_; exact rfl
  · exact rfl
  · exact rfl
  apply r_guard (s := 8) rfl rfl rfl
  · intro hg; apply opT_strip (s := 9) rfl (by (rw [hg]; rfl)); apply opT_of; (refine r_nilCheck_pp rfl ?_); refine r_nil ?_; exact rfl
  · exact rfl
  · exact rfl
  apply r_guard (s := 8) rfl rfl rfl
  · intro hg; apply opT_strip (s := 10) rfl (by (rw [hg]; rfl)); apply opT_of; (refine r_field_pp rfl rfl rfl rfl rfl (by decide) ?_); refine r_nil ?_; exact rfl
  · exact rfl
  · exact rfl
  apply r_guard (s := 8) rfl rfl rfl
  · intro hg; apply opT_strip (s := 11) rfl (by (rw [hg]; rfl)); apply opT_of; (refine r_load_pp rfl rfl rfl rfl ?_); refine r_nil ?_; exact rfl
  · exact rfl
  · exact rfl
  apply r_guard (s := 8) rfl rfl rfl
  · intro hg; apply opT_strip (s := 12) rfl (by (rw [hg]; rfl)); apply opT_of; (refine r_eqlS rfl rfl ?_); refine r_nil ?_; exact rfl
  · exact rfl
  · exact rfl
  refine r_and rfl rfl ?_
  refine asB rfl ?_
  refine r_nil ?_
  refine i_then ?_
  refine t_ret ?_
  refine i_rp1 rfl rfl ?_
  all_goals skip
  all_goals exact ret_eq rfl rfl (congrArg Ty.bool (whole_eq p))
set_option maxRecDepth 100000 in
theorem c_fillS (f : BForm) (text : Byt) (hl : text.length ≤ 65536) (AL : List (Byt × Rdr)) (fv : Value) (J : Nat → World → Tags → Prop) (Jx : World → Tags → Prop) (hJ : ∀ k, Cb (J k)) (hJx : Cb Jx) (hF : FndC Tryz.prog fv (AL.map (encF f)) J Jx) (s : Byt) (p : Rdr) (m0 : Nat) (ho : RdrOk f p) (hs : s.length ≤ text.length) (hp : filS f p s (text.drop s.length) <+: AL.drop m0) (ih : ∀ (s' : Byt) (p' : Rdr) (k' : Nat), text.length - s'.length < text.length - s.length → s'.length ≤ text.length → RdrOk f p' → filS f p' s' (text.drop s'.length) <+: AL.drop k' → MoreF Tryz.prog 127 173 (finC text fv) [Ty.row UB 5 1002 s', Ty.agg (rdrT f p' 1003)] (J k') (J (k' + (filS f p' s' (text.drop s'.length)).length)) Jx) : MoreF Tryz.prog 127 173 (finC text fv) [Ty.row UB 5 1002 s, Ty.agg (rdrT f p 1003)] (J (m0)) (J (m0 + (filS f p s (text.drop s.length)).length)) Jx := by
  refine moreF_intro (hJ (m0)) Tryz.func127 rfl (by decide) Tryz.ntmps127 (by exact Nat.le_of_ble_eq_true rfl) rfl rfl fun w0 Mc g own cs0 wf0 z0 how0 hg0 hh0 => ?_
  refine t_seq ?_
  refine t_region ?_
  refine r_box_own1 (ty := Ty.row UB 5 1002 s) rfl rfl rfl rfl ?_
  refine r_box_own rfl rfl rfl ?_
  refine r_alloc rfl (by exact List.cons_ne_nil _ _) rfl ?_
  refine r_nil ?_
  refine i_then ?_
  refine t_seq ?_
  refine t_seq ?_
  refine t_region ?_
  refine r_load_ptr rfl rfl (by decide) rfl rfl rfl ?_
  refine r_len_row rfl rfl rfl ?_
  refine asI rfl ?_
  refine r_nil ?_
  refine i_then ?_
  refine t_block ?_
  refine t_loop (fun (x : {x : FIx f text (filS f p s (text.drop s.length)) // s.length ≤ x.s.length}) => live [(2, Ty.pp [Ty.str (bs text), Ty.ex fv]), (3, Ty.ptr 1000 0), (4, Ty.ptr 5 0), (5, Ty.ptr 6 0), (6, Ty.ptr 7 0), (7, Ty.int .i64 (x.1.s.length : Nat))] [(5, Cont.cells 81 [Ty.row UB 5 1002 x.1.s]), (6, Cont.cells 177 (rdrT f x.1.p 1003)), (7, Cont.cells 4 [Ty.bool false]), (7000, Cont.ck (hJ m0)), (1000, Cont.cells 173 [Ty.ex (.func (.func 127) #[] (cs0 ++ [gp g]).toArray)]), (1001, Cont.me g 173 (.func (.func 127) #[] (cs0 ++ [gp g]).toArray) (finC text fv) cs0 rfl rfl), (5000, Cont.snap w0 (oldF Mc g own))]) (fun x => text.length - x.1.s.length) (⟨⟨s, p, ho, hs, rfl⟩, Nat.le_refl _⟩) ?_ fun x => ?_
  · (refine Ent.mk' ?_ ?_ <;> (repeat' (first | exact allSub_zero | exact allTags_nil | refine allSub_succ' ?_ (Ty.sub_any _) | refine allSub_succ' ?_ (Ty.sub_refl _) | refine allTags_cons rfl (Cont.sub_refl _) ?_)))
    all_goals trace_state
  ·
    have hxl := x.1.le
    have hxs := x.2
    have hlp := x.1.ok.len
    refine t_seq ?_
    refine t_seq ?_
    refine t_region ?_
    refine mvI rfl ?_
    refine r_field_pp rfl rfl rfl rfl rfl (by decide) ?_
    refine r_load_pp rfl rfl rfl rfl ?_
    refine r_lenS rfl rfl rfl ?_
    refine r_bin rfl rfl rfl ?_
    refine r_nil ?_
    refine i_then ?_
    refine t_cond_dec rfl (fun hc1 => ?_) (fun hc1 => ?_)
    ·
      refine t_skip ?_
      refine i_then ?_
      refine t_seq ?_
      refine t_block ?_
      refine t_seq ?_
      have hlt : x.1.s.length < text.length := by omega
      refine t_region ?_
      refine r_field_pp rfl rfl rfl rfl rfl (by decide) ?_
      refine r_load_pp rfl rfl rfl rfl ?_
      refine mvI rfl ?_
      refine r_idxS (i := x.1.s.length) rfl rfl rfl rfl hlt ?_
      refine asI rfl ?_
      refine r_nil ?_
      refine i_then ?_
      refine t_seq ?_
      refine t_seq ?_
      refine t_region ?_
      refine mvI rfl ?_
      refine r_bin rfl rfl rfl ?_
      refine r_nil ?_
      refine i_then ?_
      refine t_cond_ndec rfl (fun hc2 => ?_) (fun hc2 => ?_)
      ·
        refine t_seq ?_
        refine t_seq ?_
        refine t_region ?_
        refine mvI rfl ?_
        refine r_callG [(6, 1000), (1003, 1001)] [1003] [(6, Cont.cells 177 (rdrT f (stepQ f x.1.p (nth text x.1.s.length)) 1003))] (k_step f _ x.1.ok (nth text x.1.s.length)) rfl rfl (by repeat (first | exact cv_nil | refine cv_cons ?_ ?_ | exact cv_ptr List.mem_cons_self | exact cv_pub rfl rfl)) (pre_cons (a := 6) (b := 1000) (by exact List.mem_cons_self) rfl (cc_rdr (by exact List.mem_cons_self) (List.mem_cons_of_mem _ List.mem_cons_self) rfl) pre_nil) (post_cons (a := 6) (b := 1000) (by exact List.mem_cons_self) rfl (cc_rdr (by exact List.mem_cons_self) (List.mem_cons_of_mem _ List.mem_cons_self) rfl) post_nil) (cv_pub rfl rfl) ?_
        refine r_not rfl ?_
        refine r_nil ?_
        refine i_then ?_
        refine t_cond_ndec rfl (fun hc3 => ?_) (fun hc3 => ?_)
        ·
          refine t_seq ?_
          refine t_region ?_
          refine r_store1 rfl rfl (by decide) rfl rfl (by exact (rfl : _ = Ty.bool _)) rfl (by exact Nat.le_of_ble_eq_true rfl) rfl rfl (by exact (rfl : _ = [_])) ?_
          refine r_nil ?_
          refine i_then ?_
          refine t_ret ?_
          refine i_then_ret ?_
          refine i_then_ret ?_
          refine i_block_ret ?_
          refine i_then_ret ?_
          refine i_then_ret ?_
          refine i_block_ret ?_
          refine i_then_ret ?_
          refine m_ret rfl ?_
          exact i_retFt (hj := hJ _) z0 wf0 (congrArg J (by rw [fi_stop x.1 hlt hc2 hc3]; rfl)) hh0 rfl rfl rfl rfl (by decide) rfl rfl rfl rfl rfl
        ·
          refine t_skip ?_
          refine i_then ?_
          refine t_seq ?_
          refine t_asC (tg := 6) (D := Cont.cells 177 (rdrT f (nextR f x.1.p (nth text x.1.s.length)) 1003)) rfl (by rw [stepQ_yes hc3]; exact Cont.sub_refl _) ?_
          refine t_region ?_
          refine r_load_ptr rfl rfl (by decide) rfl rfl rfl ?_
          refine mvI rfl ?_
          refine r_buildSlice (E := UB) (xs := [_]) rfl rfl rfl rfl rfl (by decide) (by decide) (by repeat (first | exact (Parts.nil : Parts _ _ [] _) | (show Parts _ _ ((_, _) :: _) _; apply Parts.one; (· exact (rfl : _ = Ty.int _ _)); (· exact rfl)))) (by exact rfl) rfl ?_
          refine r_append rfl rfl (by decide) rfl rfl rfl rfl rfl rfl (by decide) (by (simp <;> omega)) (by (simp <;> omega)) ?_
          refine r_store1 rfl rfl (by decide) rfl rfl (by exact (rfl : _ = Ty.row _ _ _ _)) rfl (by exact Nat.le_of_ble_eq_true rfl) rfl rfl (by exact (rfl : _ = [_])) ?_
          refine r_nil ?_
          refine i_then ?_
          refine t_exit ?_
          refine i_then_exit ?_
          refine i_block_exit rfl ?_
          refine i_then ?_
          refine t_region ?_
          refine mvI rfl ?_
          refine r_add rfl rfl (by omega) (by omega) ?_
          refine asI rfl ?_
          refine r_nil ?_
          refine i_round (⟨x.1.next hlt hc2 hc3, by show s.length ≤ (x.1.s ++ [_]).length; simp; omega⟩) ?_ (by show text.length - (x.1.s ++ [nth text x.1.s.length]).length < text.length - x.1.s.length; simp; omega)
          (refine Ent.mk' ?_ ?_ <;> (repeat' (first | exact allSub_zero | exact allTags_nil | refine allSub_succ' ?_ (Ty.sub_any _) | refine allSub_succ' ?_ (Ty.sub_refl _) | refine allTags_cons rfl (Cont.sub_refl _) ?_ | refine allSub_succ' ?_ ?_)))
          all_goals skip
          all_goals exact Ty.sub_int (by show ((x.1.s.length : Nat) : Int) + 1 = (((x.1.s ++ [nth text x.1.s.length]).length : Nat) : Int); simp)
      ·
        refine t_skip ?_
        refine i_then ?_
        refine t_seq ?_
        refine t_seq ?_
        refine t_pubC (tg := 1003) [] [(6, Cont.cells 177 (rdrPl f x.1.p))] (by decide) rfl trivial ⟨pubC_cells rfl rfl ⟨pubTy_same rfl, pubTy_same rfl, pubTy_same rfl, pubTy_same rfl, pubTy_same rfl, pubTy_same rfl, pubTy_same rfl, pubTy_same rfl, pubTy_same rfl, pubTy_same rfl, pubTy_row, pubTy_same rfl, trivial⟩, trivial⟩ ?_
        refine t_region ?_
        refine r_callG (res' := Ty.clo 151 [Ty.pp [Ty.ptr 6 0]]) [(6, 1000)] [] [(6, Cont.cells 177 (rdrPl f x.1.p))] (k_canP f x.1.p) rfl rfl (cv_cons cv_nil (cv_ptr (by exact List.mem_cons_self))) (pre_cons (a := 6) (b := 1000) (by exact List.mem_cons_self) rfl (cc_rdrP (by exact List.mem_cons_self) rfl) pre_nil) (post_cons (a := 6) (b := 1000) (by exact List.mem_cons_self) rfl (cc_rdrP (by exact List.mem_cons_self) rfl) post_nil) (cv_clo (cv_cons cv_nil (cv_pp (cv_cons cv_nil (cv_ptr (by exact List.mem_cons_self)))))) ?_
        refine r_nil ?_
        refine i_then ?_
        refine t_name (D := 6) (Tb := 177) (tys := rdrPl f x.1.p) (r := []) rfl rfl rfl (by decide) fun vs hvs => ?_
        obtain ⟨v0, v1, v2, v3, v4, v5, v6, v7, v8, v9, v10, v11, rfl⟩ := twelve hvs rfl
        refine t_factTo 4001 (tg := 4000) (tys := rdrPl f x.1.p) (tys' := rdrPl f x.1.p) (vs := [v0, v1, v2, v3, v4, v5, v6, v7, v8, v9, v10, v11]) rfl rfl rfl (fun _ _ h => h) ?_
        refine t_factTo 4000 (tg := 4001) (tys := rdrPl f x.1.p) (tys' := rdrN f x.1.p v10) (vs := [v0, v1, v2, v3, v4, v5, v6, v7, v8, v9, v10, v11]) rfl rfl rfl (fun _ _ ⟨h0, h1, h2, h3, h4, h5, h6, h7, h8, h9, _, h11⟩ => ⟨h0, h1, h2, h3, h4, h5, h6, h7, h8, h9, (dens_ex [v10]).1, h11⟩) ?_
        refine t_block ?_
        refine t_rangeFuncT (ps := [34]) (lk [(2, Ty.pp [Ty.str (bs text), Ty.ex fv]), (3, Ty.ptr 1000 0), (4, Ty.ptr 5 0), (5, Ty.ptr 6 0), (6, Ty.ptr 7 0)]) (fun k => [(6, Cont.cells 177 [Ty.ex v0, Ty.ex v1, Ty.ex v2, Ty.ex v3, Ty.ex v4, Ty.ex v5, Ty.ex v6, Ty.ex v7, Ty.ex v8, Ty.ex v9, Ty.ex v10, Ty.ex v11]), (4000, Cont.fact (rdrN f x.1.p v10) [v0, v1, v2, v3, v4, v5, v6, v7, v8, v9, v10, v11] rfl rfl), (4001, Cont.fact (rdrPl f x.1.p) [v0, v1, v2, v3, v4, v5, v6, v7, v8, v9, v10, v11] rfl rfl), (5, Cont.cells 81 [Ty.row UB 5 1002 x.1.s]), (7, Cont.cells 4 [Ty.bool false]), (7000, Cont.ck (hJ (m0 + (upF f x.1.p x.1.s (text.drop (x.1.s.length + 1)) k).length))), (1000, Cont.cells 173 [Ty.ex (.func (.func 127) #[] (cs0 ++ [gp g]).toArray)]), (1001, Cont.me g 173 (.func (.func 127) #[] (cs0 ++ [gp g]).toArray) (finC text fv) cs0 rfl rfl), (5000, Cont.snap w0 (oldF Mc g own))]) true [(7, Cont.cells 4 [Ty.bool false]), (7000, Cont.ck hJx), (1001, Cont.me g 173 (.func (.func 127) #[] (cs0 ++ [gp g]).toArray) (finC text fv) cs0 rfl rfl), (5000, Cont.snap w0 (oldF Mc g own))] [7000, 5000, 1000, 1001, 1002, 4000, 4001, 5, 6, 7] rfl rfl ((c_can1 f x.1.p x.1.ok v10 0 6 [v0, v1, v2, v3, v4, v5, v6, v7, v8, v9, v10, v11]).1) (ranges_X (D := 6) (n := 60) (sd := 5) (r := fun k => []) (fun b => c_can1 f x.1.p x.1.ok v10 b 6 [v0, v1, v2, v3, v4, v5, v6, v7, v8, v9, v10, v11]) (by decide) (by decide) rfl (fun k => List.mem_cons_self) (List.mem_cons_of_mem _ List.mem_cons_self)) (deps_lt rfl) (deps_lt rfl) (by decide) (by intro t ht; obtain ⟨y, _, rfl⟩ := List.mem_map.1 ht; exact ⟨rfl, rfl, rfl⟩) rfl rfl (fun _ => rfl) rfl ?_ ?_ ?_ ?_
        · (refine Ent.mk' ?_ ?_ <;> (repeat' (first | exact allSub_zero | exact allTags_nil | refine allSub_succ' ?_ (Ty.sub_any _) | refine allSub_succ' ?_ (Ty.sub_refl _) | refine allTags_cons rfl (Cont.sub_refl _) ?_ | refine allTags_cons rfl ?_ ?_)))
          all_goals exact ck_eq hJ (by rw [up_zero]; rfl)
        · intro k tys hk
          obtain ⟨hk1, rfl⟩ := enc_get hk
          have hmem := nth_mem hk1
          refine ⟨live [(2, Ty.pp [Ty.str (bs text), Ty.ex fv]), (3, Ty.ptr 1000 0), (4, Ty.ptr 5 0), (5, Ty.ptr 6 0), (6, Ty.ptr 7 0), (9, Ty.int .u8 ((nth (canR f x.1.p) k).toNat : Int))] [(6, Cont.cells 177 [Ty.ex v0, Ty.ex v1, Ty.ex v2, Ty.ex v3, Ty.ex v4, Ty.ex v5, Ty.ex v6, Ty.ex v7, Ty.ex v8, Ty.ex v9, Ty.ex v10, Ty.ex v11]), (4000, Cont.fact (rdrN f x.1.p v10) [v0, v1, v2, v3, v4, v5, v6, v7, v8, v9, v10, v11] rfl rfl), (4001, Cont.fact (rdrPl f x.1.p) [v0, v1, v2, v3, v4, v5, v6, v7, v8, v9, v10, v11] rfl rfl), (5, Cont.cells 81 [Ty.row UB 5 1002 x.1.s]), (7, Cont.cells 4 [Ty.bool false]), (7000, Cont.ck (hJ (m0 + (upF f x.1.p x.1.s (text.drop (x.1.s.length + 1)) k).length))), (1000, Cont.cells 173 [Ty.ex (.func (.func 127) #[] (cs0 ++ [gp g]).toArray)]), (1001, Cont.me g 173 (.func (.func 127) #[] (cs0 ++ [gp g]).toArray) (finC text fv) cs0 rfl rfl), (5000, Cont.snap w0 (oldF Mc g own))], fun l w M => ?_, fun l w M => ?_⟩
          ·
            refine t_region ?_
            refine asI rfl ?_
            refine r_nil ?_
            refine i_join ?_
            (refine Ent.mk' ?_ ?_ <;> (repeat' (first | exact allSub_zero | exact allTags_nil | refine allSub_succ' ?_ (Ty.sub_any _) | refine allSub_succ' ?_ (Ty.sub_refl _) | refine allTags_cons rfl (Cont.sub_refl _) ?_)))
          ·
            refine t_block ?_
            refine t_seq ?_
            refine t_region ?_
            refine r_loadFactN (tys := rdrPl f x.1.p) (vs := [v0, v1, v2, v3, v4, v5, v6, v7, v8, v9, v10, v11]) 4001 rfl rfl (by decide) rfl rfl rfl rfl ?_
            refine r_alloc rfl (by exact List.cons_ne_nil _ _) rfl ?_
            refine r_storeN rfl rfl (by decide) rfl rfl rfl rfl rfl rfl ?_
            refine r_nil ?_
            refine i_then ?_
            refine t_seq ?_
            refine t_region ?_
            refine r_field_ptr rfl rfl rfl rfl rfl (by decide) ?_
            refine r_loadFact 4001 rfl rfl (by decide) rfl rfl rfl rfl rfl rfl ?_
            refine r_callG [(39, 6)] [39] [] (k_Clone_rows x.1.p.read (by omega)) rfl rfl (by repeat (first | exact cv_nil | refine cv_cons ?_ ?_ | exact cv_pub rfl rfl)) pre_nil post_nil (cv_row (by exact List.mem_cons_self)) ?_
            refine r_field_ptr rfl rfl rfl rfl rfl (by decide) ?_
            refine r_store1 rfl rfl (by decide) rfl rfl (by exact (rfl : _ = Ty.row _ _ _ _)) rfl (by exact Nat.le_of_ble_eq_true rfl) rfl rfl (by exact rfl) ?_
            refine r_nil ?_
            refine i_then ?_
            refine t_seq ?_
            refine t_forget (B := live [(2, Ty.pp [Ty.str (bs text), Ty.ex fv]), (3, Ty.ptr 1000 0), (4, Ty.ptr 5 0), (5, Ty.ptr 6 0), (6, Ty.ptr 7 0), (9, Ty.int .u8 ((nth (canR f x.1.p) k).toNat : Int)), (10, Ty.ptr 11 0)] [(11, Cont.cells 177 (rdrT f (x.1.p) 39)), (6, Cont.cells 177 [Ty.ex v0, Ty.ex v1, Ty.ex v2, Ty.ex v3, Ty.ex v4, Ty.ex v5, Ty.ex v6, Ty.ex v7, Ty.ex v8, Ty.ex v9, Ty.ex v10, Ty.ex v11]), (4000, Cont.fact (rdrN f x.1.p v10) [v0, v1, v2, v3, v4, v5, v6, v7, v8, v9, v10, v11] rfl rfl), (4001, Cont.fact (rdrPl f x.1.p) [v0, v1, v2, v3, v4, v5, v6, v7, v8, v9, v10, v11] rfl rfl), (5, Cont.cells 81 [Ty.row UB 5 1002 x.1.s]), (7, Cont.cells 4 [Ty.bool false]), (7000, Cont.ck (hJ (m0 + (upF f x.1.p x.1.s (text.drop (x.1.s.length + 1)) k).length))), (1000, Cont.cells 173 [Ty.ex (.func (.func 127) #[] (cs0 ++ [gp g]).toArray)]), (1001, Cont.me g 173 (.func (.func 127) #[] (cs0 ++ [gp g]).toArray) (finC text fv) cs0 rfl rfl), (5000, Cont.snap w0 (oldF Mc g own))]) ?_ ?_
            · (refine Ent.mk' ?_ ?_ <;> (repeat' (first | exact allSub_zero | exact allTags_nil | refine allSub_succ' ?_ (Ty.sub_any _) | refine allSub_succ' ?_ (Ty.sub_refl _) | refine allTags_cons rfl (Cont.sub_refl _) ?_)))
            refine t_region ?_
            refine mvI rfl ?_
            refine r_callG [(11, 1000), (39, 1001)] [39] [(11, Cont.cells 177 (rdrT f (nextR f x.1.p (nth (canR f x.1.p) k)) 39))] (k_step f _ x.1.ok (nth (canR f x.1.p) k)) rfl rfl (by repeat (first | exact cv_nil | refine cv_cons ?_ ?_ | exact cv_ptr List.mem_cons_self | exact cv_pub rfl rfl)) (pre_cons (a := 11) (b := 1000) (by exact List.mem_cons_self) rfl (cc_rdr (by exact List.mem_cons_self) (List.mem_cons_of_mem _ List.mem_cons_self) rfl) pre_nil) (post_cons (a := 11) (b := 1000) (by exact List.mem_cons_self) rfl (cc_rdr (by exact List.mem_cons_self) (List.mem_cons_of_mem _ List.mem_cons_self) (by rw [stepQ_yes hmem])) post_nil) (cv_pub rfl rfl) ?_
            refine r_nil ?_
            refine i_then ?_
            refine t_seq ?_
            refine t_forget (B := live [(2, Ty.pp [Ty.str (bs text), Ty.ex fv]), (3, Ty.ptr 1000 0), (4, Ty.ptr 5 0), (5, Ty.ptr 6 0), (6, Ty.ptr 7 0), (9, Ty.int .u8 ((nth (canR f x.1.p) k).toNat : Int)), (10, Ty.ptr 11 0)] [(11, Cont.cells 177 (rdrT f (nextR f x.1.p (nth (canR f x.1.p) k)) 39)), (6, Cont.cells 177 [Ty.ex v0, Ty.ex v1, Ty.ex v2, Ty.ex v3, Ty.ex v4, Ty.ex v5, Ty.ex v6, Ty.ex v7, Ty.ex v8, Ty.ex v9, Ty.ex v10, Ty.ex v11]), (4000, Cont.fact (rdrN f x.1.p v10) [v0, v1, v2, v3, v4, v5, v6, v7, v8, v9, v10, v11] rfl rfl), (4001, Cont.fact (rdrPl f x.1.p) [v0, v1, v2, v3, v4, v5, v6, v7, v8, v9, v10, v11] rfl rfl), (5, Cont.cells 81 [Ty.row UB 5 1002 x.1.s]), (7, Cont.cells 4 [Ty.bool false]), (7000, Cont.ck (hJ (m0 + (upF f x.1.p x.1.s (text.drop (x.1.s.length + 1)) k).length))), (1000, Cont.cells 173 [Ty.ex (.func (.func 127) #[] (cs0 ++ [gp g]).toArray)]), (1001, Cont.me g 173 (.func (.func 127) #[] (cs0 ++ [gp g]).toArray) (finC text fv) cs0 rfl rfl), (5000, Cont.snap w0 (oldF Mc g own))]) ?_ ?_
            · (refine Ent.mk' ?_ ?_ <;> (repeat' (first | exact allSub_zero | exact allTags_nil | refine allSub_succ' ?_ (Ty.sub_any _) | refine allSub_succ' ?_ (Ty.sub_refl _) | refine allTags_cons rfl (Cont.sub_refl _) ?_)))
            refine t_draw mixed rfl ?_
            refine r_load_ptr rfl rfl (by decide) rfl rfl rfl ?_
            refine r_load_ptr rfl rfl (by decide) rfl rfl rfl ?_
            refine r_callGL [1002] 45 (k_Clone_u8 x.1.s (by omega)) rfl (by repeat (first | exact lends_nil | refine lends_cons (lend_row rfl) ?_)) plain_UB (by decide) (by decide) rfl ?_
            refine mvI rfl ?_
            refine r_buildSlice (E := UB) (xs := [_]) rfl rfl rfl rfl rfl (by decide) (by decide) (by repeat (first | exact (Parts.nil : Parts _ _ [] _) | (show Parts _ _ ((_, _) :: _) _; apply Parts.one; (· exact (rfl : _ = Ty.int _ _)); (· exact rfl)))) (by exact rfl) rfl ?_
            refine r_append rfl rfl (by decide) rfl rfl rfl rfl rfl rfl (by decide) (by (simp <;> omega)) (by (simp <;> omega)) ?_
            refine r_load_ptrN rfl rfl (by decide) rfl rfl (by exact Nat.le_of_ble_eq_true rfl) ?_
            refine r_callF (ss := [Ty.row UB 5 45 (x.1.s ++ [nth (canR f x.1.p) k]), Ty.agg (rdrT f (nextR f x.1.p (nth (canR f x.1.p) k)) 39)]) [(45, 1002), (39, 1003)] (hJ (m0 + (upF f x.1.p x.1.s (text.drop (x.1.s.length + 1)) k).length)) (hJ _) hJx (ih (x.1.s ++ [nth (canR f x.1.p) k]) (nextR f x.1.p (nth (canR f x.1.p) k)) (m0 + (upF f x.1.p x.1.s (text.drop (x.1.s.length + 1)) k).length) (by simp; omega) (by simp; omega) (next_ok x.1.ok hmem) (fi_sub x.1 hlt hc2 hp hk1)) rfl rfl (cv_cons (cv_cons cv_nil (cv_rdr (List.mem_cons_of_mem _ List.mem_cons_self))) (cv_row List.mem_cons_self)) rfl rfl rfl ?_
            refine r_notY (h1 := hJ _) (hx := hJx) rfl ?_
            refine r_nil ?_
            refine ⟨by kernel_rfl, ?_⟩
            refine i_then ?_
            refine t_condY (h1 := hJ _) (hx := hJx) rfl ?_ ?_
            ·
              refine t_seq ?_
              refine t_region ?_
              refine r_store1 rfl rfl (by decide) rfl rfl (by exact (rfl : _ = Ty.bool _)) rfl (by exact Nat.le_of_ble_eq_true rfl) rfl rfl (by exact (rfl : _ = [_])) ?_
              refine r_nil ?_
              refine i_then ?_
              refine t_ret ?_
              refine i_block_ret ?_
              refine q_ret ?_
              (refine Ent.mk' ?_ ?_ <;> (repeat' (first | exact allSub_zero | exact allTags_nil | refine allSub_succ' ?_ (Ty.sub_any _) | refine allTags_cons rfl (Cont.sub_refl _) ?_)))
            ·
              refine t_skip ?_
              refine i_block ?_
              refine q_normal ?_
              (refine Ent.mk' ?_ ?_ <;> (repeat' (first | exact allSub_zero | exact allTags_nil | refine allSub_succ' ?_ (Ty.sub_any _) | refine allTags_cons rfl (Cont.sub_refl _) ?_ | refine allTags_cons rfl ?_ ?_)))
              all_goals exact ck_eq hJ (fi_up x.1 hk1)
        ·
          refine i_block ?_
          refine i_then ?_
          refine t_seq ?_
          refine t_region ?_
          refine r_store1 rfl rfl (by decide) rfl rfl (by exact (rfl : _ = Ty.bool _)) rfl (by exact Nat.le_of_ble_eq_true rfl) rfl rfl (by exact (rfl : _ = [_])) ?_
          refine r_nil ?_
          refine i_then ?_
          refine t_ret ?_
          refine i_block_ret ?_
          refine i_then_ret ?_
          refine i_then_ret ?_
          refine i_block_ret ?_
          refine i_then_ret ?_
          refine m_ret rfl ?_
          exact i_retFt (hj := hJ _) z0 wf0 (congrArg J (by rw [List.length_map, up_all, fi_torn x.1 hlt hc2])) hh0 rfl rfl rfl rfl (by decide) rfl rfl rfl rfl rfl
        · intro _
          refine i_block_ret ?_
          refine i_then_ret ?_
          refine i_block_ret ?_
          refine i_then_ret ?_
          refine i_then_ret ?_
          refine i_block_ret ?_
          refine i_then_ret ?_
          refine m_ret rfl ?_
          exact i_retFx (hx := hJx) z0 wf0 hh0 rfl rfl rfl rfl (by decide) rfl rfl rfl rfl rfl
    ·
      refine t_exit ?_
      refine i_then_exit ?_
      refine i_then_exit ?_
      refine i_block_exit rfl ?_
      refine i_then ?_
      refine t_seq ?_
      refine t_pubC (tg := 1003) [] [(6, Cont.cells 177 (rdrPl f x.1.p))] (by decide) rfl trivial ⟨pubC_cells rfl rfl ⟨pubTy_same rfl, pubTy_same rfl, pubTy_same rfl, pubTy_same rfl, pubTy_same rfl, pubTy_same rfl, pubTy_same rfl, pubTy_same rfl, pubTy_same rfl, pubTy_same rfl, pubTy_row, pubTy_same rfl, trivial⟩, trivial⟩ ?_
      refine t_pub (tg := 6) [(5, Ty.pp (rdrPl f x.1.p))] (by decide) rfl ⟨pub_ptr (T := 177) (tg := 6) (off := 0) (l := rdrPl f x.1.p) rfl rfl rfl (by decide), trivial⟩ ?_
      refine t_region ?_
      refine r_call (c_wholeP _ _) rfl rfl rfl rfl rfl ?_
      refine r_not rfl ?_
      refine mvB rfl ?_
      cases hsp : (wholeR x.1.p)
      ·
        refine r_off rfl rfl rfl rfl ?_
        refine r_off rfl rfl rfl rfl ?_
        refine r_off rfl rfl rfl rfl ?_
        refine r_off rfl rfl rfl rfl ?_
        refine r_off rfl rfl rfl rfl ?_
        refine r_pkT rfl rfl ?_
        refine r_store1 (ty := Ty.bool true) rfl rfl (by decide) rfl rfl rfl rfl (by exact Nat.le_of_ble_eq_true rfl) rfl rfl (by exact (rfl : _ = [_])) ?_
        refine r_nil ?_
        refine i_then ?_
        refine t_ret ?_
        refine m_ret rfl ?_
        exact i_retFt (hj := hJ _) z0 wf0 (congrArg J (by rw [fi_end x.1 hc1, hsp]; rfl)) hh0 rfl rfl rfl rfl (by decide) rfl rfl rfl rfl rfl
      ·
        (refine r_on rfl rfl rfl (by apply opT_of; (refine r_field_pp rfl rfl rfl rfl rfl (by decide) ?_); refine r_nil ?_; exact rfl) ?_)
        (refine r_on rfl rfl rfl (by apply opT_of; (refine r_load_pp rfl rfl rfl rfl ?_); refine r_nil ?_; exact rfl) ?_)
        (refine r_on rfl rfl rfl (by apply opT_of; (refine r_load_ptr rfl rfl (by decide) rfl rfl rfl ?_); refine r_nil ?_; exact rfl) ?_)
        (refine r_on rfl rfl rfl (by apply opT_of; (refine r_convRS rfl rfl rfl rfl rfl Tryz.underlying5 ?_); refine r_nil ?_; exact rfl) ?_)
        (refine r_on rfl rfl rfl (by apply opT_of; (refine r_callFnd hJ hJx hF rfl rfl rfl rfl (by rw [List.getElem?_map, pre_get (by have h := hp; rw [fi_end x.1 hc1, hsp] at h; exact h)]; rfl) rfl ?_); refine r_nil ?_; exact rfl) ?_)
        refine r_pkF rfl rfl ?_
        refine r_store1 (ty := Ty.yb true (hJ (m0 + 1)) hJx) rfl rfl (by decide) rfl rfl rfl rfl (by exact Nat.le_of_ble_eq_true rfl) rfl rfl (by exact (rfl : _ = [_])) ?_
        refine r_nil ?_
        refine i_then ?_
        refine t_ret ?_
        refine m_ret rfl ?_
        exact i_retFy (h1 := hJ _) (hx := hJx) z0 wf0 hh0 rfl rfl rfl rfl (by decide) rfl rfl rfl rfl (Ty.sub_yb (h1 := hJ (m0 + 1)) (congrArg J (by rw [fi_end x.1 hc1, hsp]; rfl)))
end Go.Proofs.YtjjndkenddigiaaGreatDoor

namespace Go.Proofs.YtjjndkenddigiaaGreatDoor
open Go Go.T
theorem figs_few (a : Bool) : (figs a).length ≤ 10 := by cases a <;> decide
theorem can_few (f : BForm) (p : Rdr) : (canR f p).length ≤ 11 := by
  unfold canR
  split
  · simp
  · split
    · rw [figC_eq, List.length_append]
      have := figs_few (ctnB f p)
      split <;> simp <;> omega
    · split
      · split <;> simp
      · rw [List.length_append]
        split <;> split <;> simp
theorem flat_le {α β : Type} {n : Nat} (g : α → List β) : ∀ (l : List α), (∀ x ∈ l, (g x).length ≤ n) → (l.flatMap g).length ≤ l.length * n
  | [], _ => by simp
  | x :: l, h => by
    rw [List.flatMap_cons, List.length_append, List.length_cons, Nat.succ_mul]
    have := flat_le g l fun y hy => h y (List.mem_cons_of_mem _ hy)
    have := h x List.mem_cons_self
    omega
theorem fil_few {f : BForm} : ∀ (t : Byt) (p : Rdr), (fillR f p t).length ≤ 11 ^ tornN t
  | [], p => by
    rw [fillR]; split <;> simp [tornN]
  | c :: t, p => by
    rw [fillR]
    split
    · rename_i hc
      have e : tornN (c :: t) = tornN t := by unfold tornN; rw [List.count_cons_of_ne (by exact hc)]
      rw [e]
      split
      · simp
      · rw [List.length_map]; exact fil_few t _
    · rename_i hc
      have hc : c = 63 := by simpa using hc
      have e : tornN (c :: t) = tornN t + 1 := by unfold tornN; rw [hc, List.count_cons_self]
      rw [e, Nat.pow_succ, Nat.mul_comm]
      refine Nat.le_trans (flat_le (n := 11 ^ tornN t) _ _ fun d _ => ?_) (Nat.mul_le_mul_right _ (can_few f p))
      rw [List.length_map]; exact fil_few t _
theorem all_few {f : BForm} {text : Byt} (h : (tornN text : Int) ≤ 4) : (allF f text).length ≤ 14641 := by
  have h1 := fil_few (f := f) text Rdr.new
  have h2 : 11 ^ tornN text ≤ 11 ^ 4 := Nat.pow_le_pow_right (by omega) (by omega)
  unfold allF; omega
end Go.Proofs.YtjjndkenddigiaaGreatDoor
