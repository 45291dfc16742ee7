/- Lemmas: the program and the reference walked, plain laws. -/
import Derived.Test.YtjjndkenddigiaaGreatDoorHc
namespace Go.Proofs.YtjjndkenddigiaaGreatDoor
open Go Go.T
def tornN (l : Byt) : Nat := l.count 63
theorem torn_one {a : Byt} {p : Nat} (h : p < a.length) : tornN (a.take (p + 1)) = tornN (a.take p) + (if nth a p = 63 then 1 else 0) := by
  unfold tornN
  rw [take_nth h, List.count_append, List.count_singleton]
  by_cases e : nth a p = 63 <;> simp [e]
theorem torn_no {a : Byt} {p : Nat} (h : p < a.length) (h2 : 128 ≤ (nth a p).toNat) : tornN (a.take (p + 1)) = tornN (a.take p) := by
  rw [torn_one h, if_neg]
  · rfl
  · intro e; rw [e] at h2; exact absurd h2 (by decide)
theorem torn_step {a : Byt} {p : Nat} (h : p < a.length) : runeNext a p ≤ a.length ∧ p < runeNext a p ∧ (tornN (a.take (runeNext a p)) : Int) = tornN (a.take p) + (if runeAt a p = 63 then 1 else 0) := by
  unfold runeNext runeAt
  rw [if_pos h]
  have hs : (bs a).size = a.length := bs_size a
  have key : ∀ (r w : Nat), Utf8.decode (bs a) p = (r, w) → p + w ≤ a.length → 0 < w → (tornN (a.take (p + w)) : Int) = tornN (a.take p) + (if ((r : Nat) : Int) = 63 then 1 else 0) → p + (Utf8.decode (bs a) p).2 ≤ a.length ∧ p < p + (Utf8.decode (bs a) p).2 ∧ (tornN (a.take (p + (Utf8.decode (bs a) p).2)) : Int) = tornN (a.take p) + (if (((Utf8.decode (bs a) p).1 : Nat) : Int) = 63 then 1 else 0) := by
    intro r w e h1 h2 h3
    rw [e]; exact ⟨h1, by omega, h3⟩
  by_cases hlow : (nth a p).toNat < 128
  · refine key _ _ (decode_low h hlow) (by omega) (by omega) ?_
    rw [torn_one h]
    by_cases e : nth a p = 63
    · rw [if_pos e, e]; simp
    · rw [if_neg e, if_neg]
      · simp
      · intro h3; exact e (UInt8.toNat_inj.1 (by show _ = 63; omega))
  · have hno := torn_no h (by omega)
    have err : ∀ (r w : Nat), Utf8.decode (bs a) p = (r, w) → w = 1 → r = Utf8.runeError → _ := fun r w e hw hr => key r w e (by omega) (by omega) (by
      subst hw; subst hr
      rw [hno, if_neg (by decide)]; simp)
    have c1 : p + 1 < a.length → 128 ≤ (nth a (p + 1)).toNat → tornN (a.take (p + 2)) = tornN (a.take p) := fun h1 h2 => by rw [show p + 2 = (p + 1) + 1 from rfl, torn_no h1 h2, hno]
    have c2 : p + 1 < a.length → 128 ≤ (nth a (p + 1)).toNat → p + 2 < a.length → 128 ≤ (nth a (p + 2)).toNat → tornN (a.take (p + 3)) = tornN (a.take p) := fun h1 h2 h3 h4 => by rw [show p + 3 = (p + 2) + 1 from rfl, torn_no h3 h4, c1 h1 h2]
    have c3 : p + 1 < a.length → 128 ≤ (nth a (p + 1)).toNat → p + 2 < a.length → 128 ≤ (nth a (p + 2)).toNat → p + 3 < a.length → 128 ≤ (nth a (p + 3)).toNat → tornN (a.take (p + 4)) = tornN (a.take p) := fun h1 h2 h3 h4 h5 h6 => by rw [show p + 4 = (p + 3) + 1 from rfl, torn_no h5 h6, c2 h1 h2 h3 h4]
    have cont : ∀ k, (decide (p + k < (bs a).size) && ((bs a).get! (p + k)).toNat / 64 == 2) = true → p + k < a.length ∧ 128 ≤ (nth a (p + k)).toNat := by
      intro k hk
      simp only [Bool.and_eq_true, decide_eq_true_eq, beq_iff_eq, hs] at hk
      obtain ⟨h1, h2⟩ := hk
      rw [get_bs h1] at h2
      exact ⟨h1, by omega⟩
    generalize hd : Utf8.decode (bs a) p = d
    have hd' := hd
    unfold Utf8.decode at hd
    simp only [Nat.add_zero, get_bs h] at hd
    rw [if_neg hlow] at hd
    rw [← hd']
    split at hd
    · rename_i hb
      simp only [Bool.and_eq_true] at hb
      obtain ⟨q1, q2⟩ := cont 1 (by simpa using hb.2)
      split at hd
      · rename_i hc
        refine key _ _ (hd'.trans hd.symm) (by omega) (by omega) ?_
        rw [c1 q1 q2, if_neg (by simp at hc; omega)]; simp
      · exact err _ _ (hd'.trans hd.symm) rfl rfl
    · split at hd
      · rename_i hb
        simp only [Bool.and_eq_true] at hb
        obtain ⟨q1, q2⟩ := cont 1 (by simpa using hb.1.2)
        obtain ⟨q3, q4⟩ := cont 2 (by simpa using hb.2)
        split at hd
        · rename_i hc
          refine key _ _ (hd'.trans hd.symm) (by omega) (by omega) ?_
          rw [c2 q1 q2 q3 q4, if_neg (by simp at hc; omega)]; simp
        · exact err _ _ (hd'.trans hd.symm) rfl rfl
      · split at hd
        · rename_i hb
          simp only [Bool.and_eq_true] at hb
          obtain ⟨q1, q2⟩ := cont 1 (by simpa using hb.1.1.2)
          obtain ⟨q3, q4⟩ := cont 2 (by simpa using hb.1.2)
          obtain ⟨q5, q6⟩ := cont 3 (by simpa using hb.2)
          split at hd
          · rename_i hc
            refine key _ _ (hd'.trans hd.symm) (by omega) (by omega) ?_
            rw [c3 q1 q2 q3 q4 q5 q6, if_neg (by simp at hc; omega)]; simp
          · exact err _ _ (hd'.trans hd.symm) rfl rfl
        · exact err _ _ (hd'.trans hd.symm) rfl rfl
end Go.Proofs.YtjjndkenddigiaaGreatDoor

namespace Go.Proofs.YtjjndkenddigiaaGreatDoor
open Go Go.T
set_option maxHeartbeats 1000000
def tornE (f : BForm) (text : Byt) : Int := if frmY f ≠ 0 then frmY f else if (text.length : Int) > 65536 then 10 else if (tornN text : Int) > 4 then 9 else 0
theorem torn_end {text : Byt} {p : Nat} (h : p ≤ text.length) (h2 : ¬ p < text.length) : tornN (text.take p) = tornN text := by rw [List.take_of_length_le (by omega)]
theorem tornN_le (l : Byt) : tornN l ≤ l.length := List.count_le_length
theorem torn_0 {text : Byt} : (0 : Int) = (tornN (text.take 0) : Nat) := by simp [tornN]
theorem te_1 {f : BForm} {text : Byt} (h : ¬ frmY f = 0) : frmY f = tornE f text := (if_pos h).symm
theorem te_2 {f : BForm} {text : Byt} (h : frmY f = 0) (h2 : 65536 < (text.length : Int)) : 10 = tornE f text := by unfold tornE; rw [if_neg (fun e => e h), if_pos h2]
theorem te_3 {f : BForm} {text : Byt} {p : Nat} (h : frmY f = 0) (h2 : ¬ 65536 < (text.length : Int)) (hp : p ≤ text.length) (h3 : ¬ p < text.length) (h4 : 4 < (tornN (text.take p) : Int)) : 9 = tornE f text := by
  rw [torn_end hp h3] at h4; unfold tornE; rw [if_neg (fun e => e h), if_neg h2, if_pos h4]
theorem te_4 {f : BForm} {text : Byt} {p : Nat} (h : frmY f = 0) (h2 : ¬ 65536 < (text.length : Int)) (hp : p ≤ text.length) (h3 : ¬ p < text.length) (h4 : ¬ 4 < (tornN (text.take p) : Int)) : 0 = tornE f text := by
  rw [torn_end hp h3] at h4; unfold tornE; rw [if_neg (fun e => e h), if_neg h2, if_neg h4]
attribute [local irreducible] tornN runeNext runeAt tornE
attribute [local irreducible] dInt dBool dSl dPp dPtr dAgg dTup dClo dAny dEx dStr dGd dCells dVec dVs dRow dOp nth Tri Into TOps Ctr bodyPost Exit.then Exit.inBlock Code.wp Code.wpIn dPa dArr dMp dMap CtrG keepPost iterPost bodyPostM roundQ
set_option maxRecDepth 100000 in
theorem c_torn (f : BForm) (text : Byt) : Ctr Tryz.prog 81 [frmT f, Ty.str (bs text)] (Ty.int .i64 (tornE f text)) := by
  refine fn_intro Tryz.func81 rfl (by decide) Tryz.ntmps81 (by exact Nat.le_of_ble_eq_true rfl) fun w0 M0 => ?_
  refine t_seq ?_
  refine t_region ?_
  refine r_box_agg rfl ?_
  refine asI rfl ?_
  refine r_nil ?_
  refine i_then ?_
  refine t_seq ?_
  refine t_seq ?_
  refine t_region ?_
  refine r_load_ppN rfl rfl rfl (by exact Nat.le_of_ble_eq_true rfl) ?_
  refine r_call (c_CheckForm _) rfl rfl rfl rfl rfl ?_
  refine asI rfl ?_
  refine r_nil ?_
  refine i_then ?_
  refine t_seq ?_
  refine t_region ?_
  refine mvI rfl ?_
  refine r_bin rfl rfl rfl ?_
  refine r_nil ?_
  refine i_then ?_
  refine t_cond_ndec rfl (fun hc1 => ?_) (fun hc1 => ?_)
  ·
    refine t_seq ?_
    refine t_region ?_
    refine mvI rfl ?_
    refine asI rfl ?_
    refine r_nil ?_
    refine i_then ?_
    refine t_ret ?_
    refine i_then_ret ?_
    refine i_rp1 rfl rfl ?_
    all_goals skip
    exact ret_eq rfl rfl (congrArg (Ty.int .i64) (te_1 hc1))
  ·
    refine t_skip ?_
    refine i_then ?_
    refine t_seq ?_
    refine t_seq ?_
    refine t_region ?_
    refine mvS' rfl ?_
    refine r_lenS rfl rfl rfl ?_
    refine r_bin rfl rfl rfl ?_
    refine r_nil ?_
    refine i_then ?_
    refine t_cond_dec rfl (fun hc2 => ?_) (fun hc2 => ?_)
    ·
      refine t_seq ?_
      refine t_region ?_
      refine asI rfl ?_
      refine r_nil ?_
      refine i_then ?_
      refine t_ret ?_
      refine i_then_ret ?_
      refine i_rp1 rfl rfl ?_
      all_goals skip
      exact ret_eq rfl rfl (congrArg (Ty.int .i64) (te_2 hc1 hc2))
    ·
      refine t_skip ?_
      refine i_then ?_
      refine t_seq ?_
      refine t_region ?_
      refine asI rfl ?_
      refine r_nil ?_
      refine i_then ?_
      refine t_seq ?_
      refine t_seq ?_
      refine t_region ?_
      refine mvS' rfl ?_
      refine r_rangeS rfl rfl rfl rfl ?_
      refine r_nil ?_
      refine i_then ?_
      refine t_block ?_
      refine t_loop (fun (p : {p : Nat // p ≤ text.length}) => live [(1, Ty.str (bs text)), (2, Ty.pp (frmTys f)), (6, Ty.int .i64 (tornN (text.take p.1) : Nat)), (18, Ty.ptr 19 0)] [(19, Cont.si text p.1)]) (fun p => text.length - p.1) (⟨0, Nat.zero_le _⟩) ?_ fun p => ?_
      · (refine Ent.mk' ?_ ?_ <;> (repeat' (first | exact allSub_zero | exact allTags_nil | refine allSub_succ' ?_ (Ty.sub_any _) | refine allSub_succ' ?_ (Ty.sub_refl _) | refine allTags_cons rfl (Cont.sub_refl _) ?_ | refine allSub_succ' ?_ ?_)))
        all_goals exact Ty.sub_int torn_0
      ·
        have hp0 := p.2
        have hle := tornN_le (text.take p.1)
        have hl2 : (text.take p.1).length = p.1 := List.length_take_of_le hp0
        refine t_seq ?_
        refine t_region ?_
        refine r_nextS rfl rfl (by decide) ?_
        refine r_extN0 rfl ?_
        refine r_nil ?_
        refine i_then ?_
        refine t_seq ?_
        refine t_cond_dec rfl (fun hc3 => ?_) (fun hc3 => ?_)
        ·
          refine t_skip ?_
          refine i_then ?_
          refine t_block ?_
          refine t_seq ?_
          have hp : p.1 < text.length := by omega
          have hst := torn_step hp
          refine t_region ?_
          refine r_extN2 rfl (by omega) ?_
          refine asI rfl ?_
          refine r_nil ?_
          refine i_then ?_
          refine t_seq ?_
          refine t_region ?_
          refine mvI rfl ?_
          refine r_bin rfl rfl rfl ?_
          refine r_nil ?_
          refine i_then ?_
          refine t_cond_dec rfl (fun hc4 => ?_) (fun hc4 => ?_)
          ·
            refine t_region ?_
            refine mvI rfl ?_
            refine r_add rfl rfl (by omega) (by omega) ?_
            refine asI rfl ?_
            refine r_nil ?_
            refine i_block ?_
            refine i_round (⟨runeNext text p.1, hst.1⟩) ?_ (by show text.length - runeNext text p.1 < text.length - p.1; omega)
            (refine Ent.mk' ?_ ?_ <;> (repeat' (first | exact allSub_zero | exact allTags_nil | refine allSub_succ' ?_ (Ty.sub_any _) | refine allSub_succ' ?_ (Ty.sub_refl _) | refine allTags_cons rfl (Cont.sub_refl _) ?_ | refine allSub_succ' ?_ ?_)))
            all_goals skip
            all_goals exact Ty.sub_int (by rw [hst.2.2, if_pos hc4])
          ·
            refine t_skip ?_
            refine i_block ?_
            refine i_round (⟨runeNext text p.1, hst.1⟩) ?_ (by show text.length - runeNext text p.1 < text.length - p.1; omega)
            (refine Ent.mk' ?_ ?_ <;> (repeat' (first | exact allSub_zero | exact allTags_nil | refine allSub_succ' ?_ (Ty.sub_any _) | refine allSub_succ' ?_ (Ty.sub_refl _) | refine allTags_cons rfl (Cont.sub_refl _) ?_ | refine allSub_succ' ?_ ?_)))
            all_goals skip
            all_goals exact Ty.sub_int (by rw [hst.2.2, if_neg hc4, Int.add_zero])
        ·
          refine t_exit ?_
          refine i_then_exit ?_
          refine i_then_exit ?_
          refine i_block_exit rfl ?_
          refine i_then ?_
          refine t_seq ?_
          refine t_seq ?_
          refine t_region ?_
          refine mvI rfl ?_
          refine r_bin rfl rfl rfl ?_
          refine r_nil ?_
          refine i_then ?_
          refine t_cond_dec rfl (fun hc5 => ?_) (fun hc5 => ?_)
          ·
            refine t_seq ?_
            refine t_region ?_
            refine asI rfl ?_
            refine r_nil ?_
            refine i_then ?_
            refine t_ret ?_
            refine i_then_ret ?_
            refine i_rp1 rfl rfl ?_
            all_goals skip
            exact ret_eq rfl rfl (congrArg (Ty.int .i64) (te_3 hc1 hc2 p.2 hc3 hc5))
          ·
            refine t_skip ?_
            refine i_then ?_
            refine t_seq ?_
            refine t_region ?_
            refine asI rfl ?_
            refine r_nil ?_
            refine i_then ?_
            refine t_ret ?_
            refine i_rp1 rfl rfl ?_
            all_goals skip
            exact ret_eq rfl rfl (congrArg (Ty.int .i64) (te_4 hc1 hc2 p.2 hc3 hc5))
end Go.Proofs.YtjjndkenddigiaaGreatDoor

namespace Go.T
open Go Go.RowKit
def dBv (el : Nat) (l : Byt) (w : World) (M : Tags) (t : Nat) : Prop :=
  ∃ b cs lo hi, M b = some t ∧ w.heap[b]? = some (.cells cs el (lo, hi)) ∧ l.length ≤ lo ∧ ∀ j (hj : j < l.length), cs[j]? = some (.int .u8 (l[j].toNat : Int))
def Cont.bv (el : Nat) (l : Byt) : Cont :=
  { den := dBv el l, mono := fun le _ _ hs hk ⟨b, cs, lo, hi, h1, h2, h3⟩ => let ⟨h4, h5⟩ := le.own b _ h1 hk; ⟨b, cs, lo, hi, h4, (h5 hs).trans h2, h3⟩ }
theorem Cont.sub_bv {el : Nat} {l m : Byt} (h : l = m) : (Cont.bv el l).Sub (Cont.bv el m) := h ▸ Cont.sub_refl _
section
variable {P : Program} {fr : Fr} {ops : Array Oper} {A : As} {rest : List Oper} {K : As → List (As × Fx) → Prop} {d : Nat} {t ty' : TypeId} {p : String} {e : Array Edge} {x y : Operand} {a : Byt} {ti te ts : TI} {el tg : Nat} [T : Tab P]
theorem r_convSB {src : TypeId} (hx : A.op fr x = .str (bs a)) (hS : T.tab[src]? = some ts) (hks : ts.k = .string) (hT : T.tab[ty']? = some ti) (hk : ti.k = .slice el) (hu : P.underlying el = some (.int .u8)) (hl : a.length ≤ maxLen) (hp : fr.pass.contains (d + 1) = false)
    (h : TOps P fr ops rest (A.after { d := some d, ty := .vs (d + 1) a.length, K := [d + 1], sets := [(d + 1, .bv el a)], rs := opR x }) fun A' l' => K A' ((A, { d := some d, ty := .vs (d + 1) a.length, K := [d + 1], sets := [(d + 1, .bv el a)], rs := opR x }) :: l')) :
    TOps P fr ops (⟨some d, .convert src ty' x, t, p, e, none⟩ :: rest) A K := by
  refine ⟨_, opT_mem rfl rfl (by simp) (by simp) (by simp at hp ⊢; exact hp) fun ac w M wf hr _ => ?_, h⟩
  have hdx := op_den (x := x) (fun _ h => h) hr
  rw [hx] at hdx
  have ex : ac.eval x = .string (bs a) := hdx
  obtain ⟨_, D, _, hD, hkd, _⟩ := tab_info hT
  rw [hk] at hkd
  cases D <;> simp only [TK.of, reduceCtorEq, TK.slice.injEq] at hkd
  subst hkd
  rename_i el _
  have hrun := run_bytes_of_string (P := P) w src ty' el (bs a) (tab_string hS hks) hD hu
  have wf' : Wf w.drew M := ⟨wf.lt, wf.inj, wf.amb⟩
  obtain ⟨h1, h2, h3⟩ := le_alloc wf' (.cells (bytesRow (bs a) (grownCap w (bs a).size 0 el)) el ((bytesRow (bs a) (grownCap w (bs a).size 0 el)).size, (bytesRow (bs a) (grownCap w (bs a).size 0 el)).size + 1)) (d + 1)
  have hsz : (bs a).size = a.length := bs_size a
  refine ⟨.slice (some ⟨w.heap.size, 0, none⟩) (bs a).size (grownCap w (bs a).size 0 el), _, by simp only [execOp, ex, Sem.run_bind, hrun]; rfl, _, h1, ⟨h2.size, h2.os, h2.tape, h2.out, h2.pub, h2.own⟩, .inr ⟨w.heap.size, grownCap w (bs a).size 0 el, h3, by rw [hsz], by rw [hsz]; exact grownCap_ge _ _ _ _, by rw [hsz]; exact grownCap_le_maxLen _ _ _ _ hl⟩, ?_⟩
  intro z hz
  simp only [List.mem_singleton] at hz
  subst hz
  refine ⟨_, _, _, _, h3, alloc_new _ _, ?_, fun j hj => ?_⟩
  · simp only [bytesRow, Array.size_append, Array.size_map]
    have : (bs a).data.size = a.length := hsz
    omega
  · have hj' : j < (bs a).data.size := by have : (bs a).data.size = a.length := hsz; omega
    rw [bytesRow_at (bs a) _ j hj']
    rfl
theorem setCell_mark {w : World} {b off : Nat} {cs : Array Value} {Tb lo hi : Nat} (h : w.heap[b]? = some (.cells cs Tb (lo, hi))) (v : Value) : w.setCell ⟨b, off, none⟩ v = { w with heap := w.heap.setIfInBounds b (.cells (cs.setIfInBounds off v) Tb (lo, hi)) } := by
  unfold World.setCell
  congr 1
  apply Array.ext_getElem?
  intro i
  rw [Array.getElem?_modify]
  by_cases e : b = i
  · subst e
    obtain ⟨hlt, hv⟩ := Array.getElem?_eq_some_iff.1 h
    simp [hv, hlt]
  · simp [e, Array.getElem?_setIfInBounds_ne e]
theorem store_leM {w : World} {M : Tags} {tg b lo hi : Nat} {cs' : Array Value} {Tb : TypeId} (wf : Wf w M) (hb : M b = some tg) (w' : World) (hw : w' = { w with heap := w.heap.setIfInBounds b (.cells cs' Tb (lo, hi)) }) :
    Wf w' M ∧ Le (· ∈ [tg]) (· ∈ ([] : List Nat)) w M w' M ∧ w'.heap[b]? = some (.cells cs' Tb (lo, hi)) := by
  have hlt := wf.lt b tg hb
  subst hw
  refine ⟨⟨fun b' t h => by simpa using wf.lt b' t h, wf.inj, wf.amb.of fun b' hb' hm => ⟨hm, by simp [Array.getElem?_setIfInBounds_ne (show b ≠ b' from fun e => by rw [← e, hb] at hm; cases hm)]⟩⟩, ⟨by simp, rfl, rfl, rfl, fun b' hb' hm => ⟨hm, ?_⟩, fun b' t hm _ => ⟨hm, fun hs => ?_⟩⟩, by simp [hlt]⟩
  · have : b ≠ b' := fun e => by rw [← e, hb] at hm; cases hm
    simp [Array.getElem?_setIfInBounds_ne this]
  · have : b ≠ b' := fun e => hs (by rw [← e, hb] at hm; injection hm with hm; simp [hm])
    simp [Array.getElem?_setIfInBounds_ne this]
theorem r_store_bv {Tb i off : Nat} {z : UInt8} {n : Int} (hx : A.op fr x = .ptr tg off) (ho : off = i) (hc : A.tag tg = some (.bv Tb a)) (h1 : Tag1 tg) (hT : T.tab[ty']? = some ti) (hsz : ti.size = 1) (hy : A.op fr y = .int .u8 n) (hn : n = (z.toNat : Int)) (hi : i < a.length)
    (h : TOps P fr ops rest (A.after { d := none, S := [tg], sets := [(tg, .bv Tb (a.set i z))], rs := opR x ++ opR y, rt := [tg] }) fun A' l'' => K A' ((A, { d := none, S := [tg], sets := [(tg, .bv Tb (a.set i z))], rs := opR x ++ opR y, rt := [tg] }) :: l'')) :
    TOps P fr ops (⟨none, .store ty' x y, t, p, e, none⟩ :: rest) A K := by
  subst ho
  subst hn
  refine ⟨_, opT_unit rfl rfl rfl (by simp) (by simpa using h1.1) (by simp) fun ac w M wf hr ht => ?_, h⟩
  obtain ⟨hdx, hdy⟩ := op2 hr
  rw [hx] at hdx; rw [hy] at hdy
  obtain ⟨b, hb, ex⟩ := hdx
  have ey : ac.eval y = .int .u8 (z.toNat : Int) := hdy
  obtain ⟨b', cs, lo, hi', hb', hh, hlo, hcs⟩ := ht _ (tag_mem hc) (by simp)
  obtain ⟨u, rfl⟩ : ∃ u, tg = u + 1 := ⟨tg - 1, by have := h1.1; omega⟩
  have := wf.inj b b' u h1.2 hb hb'
  subst this
  have hcell : w.cell? ⟨b, off, none⟩ = some (.int .u8 (a[off].toNat : Int)) := by simp [World.cell?, hh, hcs off hi]
  have hfz : w.frozen? ⟨b, off, none⟩ = false := by simp [World.frozen?, hh]; omega
  obtain ⟨h1', h2', h3'⟩ := store_leM wf hb _ (setCell_mark hh (off := off) (ac.eval y))
  refine ⟨w.setCell ⟨b, off, none⟩ (ac.eval y), ?_, M, h1', h2', trivial, ?_⟩
  · have hst := run_store P w ⟨b, off, none⟩ (ac.eval y) .plain (by rw [ey]; rfl)
    rw [hcell] at hst
    simp only [hfz] at hst
    rw [ey] at hst ⊢
    simp [execOp, Instr.storeAt, Instr.sureAddr, ex, ey, storeVar, Value.cells, run_sizeOf' hT, hsz, storeCells, hst, Addr.add]
  · intro z' hz'
    simp only [List.mem_singleton] at hz'
    subst hz'
    refine ⟨b, _, lo, hi', hb, h3', by rw [List.length_set]; exact hlo, fun j hj => ?_⟩
    rw [List.length_set] at hj
    have hsz2 : off < cs.size := (Array.getElem?_eq_some_iff.1 (hcs off hi)).1
    by_cases e : off = j
    · subst e
      rw [Array.getElem?_setIfInBounds_self_of_lt hsz2, ey]; simp
    · rw [Array.getElem?_setIfInBounds_ne e, hcs j hj, List.getElem_set_ne e]
theorem r_convBS {src n : Nat} (hx : A.op fr x = .vs tg n) (hc : A.tag tg = some (.bv el a)) (h1 : Tag1 tg) (hn : n = a.length) (hS : T.tab[src]? = some ts) (hks : ts.k = .slice el) (hT : T.tab[ty']? = some ti) (hk : ti.k = .string) (hu : P.underlying el = some (.int .u8))
    (h : TOps P fr ops rest (A.set d (.str (bs a))) fun A' l' => K A' ((A, { d := some d, ty := .str (bs a), rs := opR x, rt := [tg] }) :: l')) : TOps P fr ops (⟨some d, .convert src ty' x, t, p, e, none⟩ :: rest) A K :=
  tops_pure (opT_pure rfl rfl fun ac w M wf hr ht => by
    subst hn
    have hdx := op_den (x := x) (fun _ h => h) hr
    rw [hx] at hdx
    obtain ⟨b', cs, lo, hi', hb', hh, hlo, hcs⟩ := ht _ (tag_mem hc) (by simp)
    obtain ⟨_, D, _, hD, hkd, _⟩ := tab_info hS
    rw [hks] at hkd
    cases D <;> simp only [TK.of, reduceCtorEq, TK.slice.injEq] at hkd
    subst hkd
    rcases hdx with ⟨h0, ex⟩ | ⟨b, c, hb, ex, _, _⟩
    · have ha : a = [] := List.length_eq_zero_iff.1 h0
      subst ha
      refine ⟨.string (bs []), ?_, rfl⟩
      simp only [execOp, ex, Sem.run_bind, run_convert_bytes_string w src ty' _ none 0 0 hD hu (tab_string hT hk)]
      rfl
    · obtain ⟨u, rfl⟩ : ∃ u, tg = u + 1 := ⟨tg - 1, by have := h1.1; omega⟩
      have := wf.inj b b' u h1.2 hb hb'
      subst this
      have hrun := run_convert_bytes_back (P := P) w src ty' _ ⟨b, 0, none⟩ c a hD hu (tab_string hT hk) (fun j hj => by rw [Addr.add_lit]; simp [World.cell?, hh, hcs j hj])
      exact ⟨.string (bs a), by simp only [execOp, ex, Sem.run_bind, hrun]; rfl, rfl⟩) h
omit T in
theorem r_lenMp {mt kt et : TypeId} {κ β : Type} [DecidableEq κ] {enc : κ → Value} {V : VT β} {kvs : List (κ × β)} (hx : A.op fr x = .mp tg) (hc : A.tag tg = some (.mp enc V kvs)) (h1 : Tag1 tg) (hm : mapOf P mt = some (kt, et))
    (h : TOps P fr ops rest (A.set d (.int .i64 kvs.length)) fun A' l' => K A' ((A, { d := some d, ty := .int .i64 kvs.length, rs := opR x, rt := [tg] }) :: l')) :
    TOps P fr ops (⟨some d, .call ⟨.builtin .len, #[x], #[mt]⟩, t, p, e, none⟩ :: rest) A K :=
  tops_pure (opT_pure rfl rfl fun a w M wf hrd htg => by
    obtain ⟨b, ex, _, es, clock, h3, h4, _⟩ := mp_at hx hc h1 wf (fun _ h => h) hrd htg
    have hl : es.size = kvs.length := by have := congrArg List.length h4; simpa using this
    exact ⟨.int .i64 kvs.length, by simp [execOp, resolve, invoke, builtin, ex, Builtin.len_, run_underlying (mapOf_und hm), getObj, Sem.run, h3, goInt, hl], rfl⟩) h
end
end Go.T

namespace Go.Proofs.YtjjndkenddigiaaGreatDoor
open Go Go.T
def tearB (text : Byt) (l : List Int) : Byt := (List.range text.length).map fun k => if ((k : Nat) : Int) ∈ l then 63 else nth text k
def offL (text : Byt) (l : List Int) : Bool := l.any fun i => offB i 0 ((text.length : Int) - 1)
def tearV (text : Byt) (l : List Int) : Byt × Int := if (text.length : Int) > 65536 then ([], 10) else if offL text l = true then ([], 1) else if l.Nodup then (tearB text l, 0) else ([], 5)
theorem tearB_len (text : Byt) (l : List Int) : (tearB text l).length = text.length := by simp [tearB]
theorem nth_getElem {α : Type} [Inhabited α] {l : List α} {k : Nat} (h : k < l.length) : l[k] = nth l k := by simp [nth, h]
theorem tearB_at {text : Byt} {l : List Int} {k : Nat} (h : k < text.length) : nth (tearB text l) k = if ((k : Nat) : Int) ∈ l then 63 else nth text k := by
  rw [← nth_getElem (by rw [tearB_len]; exact h)]; simp [tearB]
def DupK (l : List Int) (k : Nat) : Prop := ∀ j, j < k → ∀ m, m < j → nth l j ≠ nth l m
theorem dup_yes {l : List Int} {j m : Nat} (hj : j < l.length) (hm : m < j) (h : nth l j = nth l m) : ¬ l.Nodup := by
  intro hn
  have hm' : m < l.length := by omega
  rw [← nth_getElem hj, ← nth_getElem hm'] at h
  exact List.pairwise_iff_getElem.1 hn m j hm' hj hm h.symm
theorem dup_no {l : List Int} (h : DupK l l.length) : l.Nodup := by
  refine List.pairwise_iff_getElem.2 fun i j hi hj hij he => ?_
  rw [nth_getElem, nth_getElem] at he
  exact h j hj i hij he.symm
theorem te1 {text : Byt} {l : List Int} (h : 65536 < (text.length : Int)) : tearV text l = ([], 10) := if_pos h
theorem te2 {text : Byt} {l : List Int} (h : ¬ 65536 < (text.length : Int)) (h2 : offL text l = true) : tearV text l = ([], 1) := by unfold tearV; rw [if_neg h, if_pos h2]
theorem te3 {text : Byt} {l : List Int} (h : ¬ 65536 < (text.length : Int)) (h2 : offL text l = false) (h3 : ¬ l.Nodup) : tearV text l = ([], 5) := by unfold tearV; rw [if_neg h, if_neg (by rw [h2]; decide), if_neg h3]
theorem te4 {text : Byt} {l : List Int} (h : ¬ 65536 < (text.length : Int)) (h2 : offL text l = false) (h3 : l.Nodup) : tearV text l = (tearB text l, 0) := by unfold tearV; rw [if_neg h, if_neg (by rw [h2]; decide), if_pos h3]
end Go.Proofs.YtjjndkenddigiaaGreatDoor

namespace Go.Proofs.YtjjndkenddigiaaGreatDoor
open Go Go.T
def metK (l : List Int) (k : Nat) : List (Int × Bool) := (l.take k).foldl (fun m i => mput m i true) []
theorem metK_succ {l : List Int} {k : Nat} (h : k < l.length) : metK l (k + 1) = mput (metK l k) (nth l k) true := by unfold metK; rw [take_nth h, List.foldl_append]; rfl
theorem mput_len {m : List (Int × Bool)} {i : Int} : (mput m i true).length = m.length + (if mget m i = none then 1 else 0) := by
  induction m with
  | nil => rfl
  | cons x m ih =>
    simp only [mput, mget]
    split
    · simp
    · simp only [List.length_cons, ih]; split <;> omega
theorem met_get {l : List Int} : ∀ {k : Nat}, k ≤ l.length → ∀ i, mget (metK l k) i = if i ∈ l.take k then some true else none
  | 0, _, i => by simp [metK, mget]
  | k + 1, h, i => by
    rw [metK_succ (by omega), mget_mput, met_get (by omega), take_nth (by omega)]
    by_cases e : nth l k = i
    · subst e; simp
    · rw [if_neg e]
      have : i ≠ nth l k := fun h => e h.symm
      simp [this]
theorem met_getD {l : List Int} {k : Nat} (h : k ≤ l.length) (i : Int) : (mget (metK l k) i).getD false = decide (i ∈ l.take k) := by
  rw [met_get h]; split <;> simp [*]
theorem mem_take_nth {l : List Int} {k : Nat} (h : k ≤ l.length) {i : Int} : i ∈ l.take k ↔ ∃ m, m < k ∧ nth l m = i := by
  constructor
  · intro hm
    obtain ⟨m, hm2, rfl⟩ := List.getElem_of_mem hm
    rw [List.length_take] at hm2
    exact ⟨m, by omega, by rw [List.getElem_take, nth_getElem]⟩
  · rintro ⟨m, hm, rfl⟩
    rw [← nth_getElem (show m < l.length by omega)]
    exact List.mem_take_iff_getElem.2 ⟨m, by omega, rfl⟩
theorem met_len {l : List Int} : ∀ {k : Nat}, k ≤ l.length → (metK l k).length ≤ k ∧ ((metK l k).length = k ↔ DupK l k)
  | 0, _ => ⟨Nat.le_refl _, fun _ j hj => absurd hj (Nat.not_lt_zero _), fun _ => rfl⟩
  | k + 1, h => by
    obtain ⟨h1, h2⟩ := met_len (l := l) (k := k) (by omega)
    rw [metK_succ (by omega), mput_len, met_get (by omega)]
    by_cases e : nth l k ∈ l.take k
    · rw [if_pos e]
      obtain ⟨m, hm, he⟩ := (mem_take_nth (by omega)).1 e
      refine ⟨by simp; omega, fun hc => by simp at hc; omega, fun hd => absurd he.symm (hd k (by omega) m hm)⟩
    · rw [if_neg e, if_pos rfl]
      refine ⟨by omega, fun hc j hj m hm => ?_, fun hd => ?_⟩
      · have hdk := h2.1 (by omega)
        by_cases ej : j = k
        · subst ej; exact fun he => e ((mem_take_nth (by omega)).2 ⟨m, hm, he.symm⟩)
        · exact hdk j (by omega) m hm
      · have := h2.2 fun j hj m hm => hd j (by omega) m hm
        omega
theorem met_dup {l : List Int} {k : Nat} (hk : k ≤ l.length) (h0 : ¬ (k : Int) < l.length) (h : ((metK l k).length : Int) < l.length) : ¬ l.Nodup := by
  have e : k = l.length := by omega
  subst e
  intro hn
  have : DupK l l.length := fun j hj m hm he => dup_yes hj hm he hn
  have := (met_len (Nat.le_refl _)).2.2 this
  omega
theorem met_nod {l : List Int} {k : Nat} (hk : k ≤ l.length) (h0 : ¬ (k : Int) < l.length) (h : ¬ ((metK l k).length : Int) < l.length) : l.Nodup := by
  have e : k = l.length := by omega
  subst e
  obtain ⟨h1, h2⟩ := met_len (l := l) (Nat.le_refl _)
  exact dup_no (h2.1 (by omega))
theorem all_off' {text : Byt} {l : List Int} : (l.all fun i => inB i 0 ((text.length : Int) - 1)) = !offL text l := by
  unfold offL
  induction l with
  | nil => rfl
  | cons x l ih => rw [List.all_cons, List.any_cons, Bool.not_or, ih, ← inB_off, Bool.not_not]
theorem metK_0 (l : List Int) : [] = metK l 0 := rfl
theorem met_in {l : List Int} {k : Nat} (hk : k ≤ l.length) (h0 : ¬ (k : Int) < l.length) {i : Int} (h : (mget (metK l k) i).getD false = true) : i ∈ l := by
  rw [met_getD hk, List.take_of_length_le (by omega)] at h; simpa using h
theorem met_out {l : List Int} {k : Nat} (hk : k ≤ l.length) (h0 : ¬ (k : Int) < l.length) {i : Int} (h : (mget (metK l k) i).getD false = false) : ¬ i ∈ l := by
  rw [met_getD hk, List.take_of_length_le (by omega)] at h; simpa using h
theorem off_no {text : Byt} {l : List Int} (h : (!l.all fun i => inB i 0 ((text.length : Int) - 1)) = false) : offL text l = false := by
  rw [all_off', Bool.not_not] at h; exact h
theorem off_yes {text : Byt} {l : List Int} (h : (!l.all fun i => inB i 0 ((text.length : Int) - 1)) = true) : offL text l = true := by
  rw [all_off', Bool.not_not] at h; exact h
def tearP (text : Byt) (l : List Int) (j : Nat) : Byt := (tearB text l).take j ++ text.drop j
theorem tp_0 (text : Byt) (l : List Int) : text = tearP text l 0 := by simp [tearP]
theorem tp_len {text : Byt} {l : List Int} {j : Nat} (h : j ≤ text.length) : (tearP text l j).length = text.length := by simp [tearP, tearB_len]; omega
theorem tp_end {text : Byt} {l : List Int} {j : Nat} (h : text.length ≤ j) : tearP text l j = tearB text l := by
  unfold tearP; rw [List.take_of_length_le (by rw [tearB_len]; exact h), List.drop_of_length_le h, List.append_nil]
theorem tp_yes {text : Byt} {l : List Int} {j : Nat} (h : j < text.length) (hm : ((j : Nat) : Int) ∈ l) : (tearP text l j).set j 63 = tearP text l (j + 1) := by
  unfold tearP
  have hl : ((tearB text l).take j).length = j := by rw [List.length_take, tearB_len]; omega
  rw [List.set_append_right _ _ (by omega), hl, Nat.sub_self, List.drop_eq_getElem_cons h, List.set_cons_zero, take_nth (by rw [tearB_len]; exact h), tearB_at h, if_pos hm, List.append_assoc]; rfl
theorem tp_no {text : Byt} {l : List Int} {j : Nat} (h : j < text.length) (hm : ¬ ((j : Nat) : Int) ∈ l) : tearP text l j = tearP text l (j + 1) := by
  unfold tearP
  rw [List.drop_eq_getElem_cons h, take_nth (by rw [tearB_len]; exact h), tearB_at h, if_neg hm, List.append_assoc, nth_getElem h]; rfl
end Go.Proofs.YtjjndkenddigiaaGreatDoor

namespace Go.Proofs.YtjjndkenddigiaaGreatDoor
open Go Go.T
set_option maxHeartbeats 1000000
def KI : KeyK Tryz.prog 3 Int := intKey Tryz.prog 3 .i64 Tryz.underlying3
theorem keyI (n : Int) : KeyAt (Ty.int .i64 n) (KI.enc n) := key_int
theorem mapT169 : mapOf Tryz.prog 169 = some (3, 4) := by kernel_rfl
theorem zero4 : zeroOf Tryz.prog 4 = some (.bool false) := by kernel_rfl
theorem vb_zero : ∀ w M, (VBool.ty false).den w M (.bool false) := fun _ _ => rfl
attribute [local irreducible] tearB metK tearP
attribute [local irreducible] dInt dBool dSl dPp dPtr dAgg dTup dClo dAny dEx dStr dGd dCells dVec dVs dRow dOp nth Tri Into TOps Ctr bodyPost Exit.then Exit.inBlock Code.wp Code.wpIn dPa dArr dMp dMap CtrG keepPost iterPost bodyPostM roundQ
set_option maxRecDepth 100000 in
theorem c_Tear1 (text : Byt) (hl : text.length ≤ 1000000) (n : Int) : Ctr Tryz.prog 122 [Ty.int .i64 n, Ty.pp [Ty.str (bs text)]] (Ty.bool (inB n 0 ((text.length : Int) - 1))) := by
  refine fn_intro Tryz.func122 rfl (by decide) Tryz.ntmps122 (by exact Nat.le_of_ble_eq_true rfl) fun w0 M0 => ?_
  refine t_seq ?_
  refine t_region ?_
  refine asB rfl ?_
  refine r_nil ?_
  refine i_then ?_
  refine t_seq ?_
  refine t_region ?_
  refine mvI rfl ?_
  refine r_load_pp rfl rfl rfl rfl ?_
  refine r_lenS rfl rfl rfl ?_
  refine r_sub rfl rfl (by omega) (by omega) ?_
  refine r_call (c_in _ _ _) rfl rfl rfl rfl rfl ?_
  refine asB rfl ?_
  refine r_nil ?_
  refine i_then ?_
  refine t_ret ?_
  refine i_rp1 rfl rfl ?_
  all_goals exact ret_refl rfl rfl
set_option maxRecDepth 100000 in
theorem c_Tear (text : Byt) (l : List Int) (hl : l.length ≤ 1000000) : Ctr Tryz.prog 64 [Ty.str (bs text), Ty.sl I64 l] (Ty.tup [Ty.str (bs (tearV text l).1), Ty.int .i64 (tearV text l).2]) := by
  refine fn_intro Tryz.func64 rfl (by decide) Tryz.ntmps64 (by exact Nat.le_of_ble_eq_true rfl) fun w0 M0 => ?_
  refine t_seq ?_
  refine t_region ?_
  refine r_box_one (ty := Ty.str (bs text)) rfl rfl ?_
  refine asS' rfl ?_
  refine asI rfl ?_
  refine r_nil ?_
  refine i_then ?_
  refine t_seq ?_
  refine t_seq ?_
  refine t_region ?_
  refine r_load_pp rfl rfl rfl rfl ?_
  refine r_lenS rfl rfl rfl ?_
  refine r_bin rfl rfl rfl ?_
  refine r_nil ?_
  refine i_then ?_
  refine t_cond_dec rfl (fun hc1 => ?_) (fun hc1 => ?_)
  ·
    refine t_seq ?_
    refine t_region ?_
    refine asS' rfl ?_
    refine asI rfl ?_
    refine r_nil ?_
    refine i_then ?_
    refine t_ret ?_
    refine i_then_ret ?_
    refine i_rp2 rfl rfl rfl ?_ ?_
    all_goals skip
    all_goals (rw [te1 hc1]; exact ret_refl rfl rfl)
  ·
    refine t_skip ?_
    refine i_then ?_
    refine t_seq ?_
    refine t_seq ?_
    have htl : text.length ≤ 1000000 := by omega
    refine t_region ?_
    refine mvS rfl ?_
    refine r_makeFunc rfl ?_
    refine r_call (c_every_int l (Ty.clo _ [Ty.pp [Ty.str (bs text)]]) rfl (fun n => inB n 0 ((text.length : Int) - 1)) rfl rfl fun x _ => cal_clo (c_Tear1 text htl x) rfl rfl rfl rfl rfl rfl) rfl rfl rfl rfl rfl ?_
    refine r_not rfl ?_
    refine r_nil ?_
    refine i_then ?_
    refine t_cond rfl (fun hc2 => ?_) (fun hc2 => ?_)
    ·
      refine t_seq ?_
      refine t_region ?_
      refine asS' rfl ?_
      refine asI rfl ?_
      refine r_nil ?_
      refine i_then ?_
      refine t_ret ?_
      refine i_then_ret ?_
      refine i_rp2 rfl rfl rfl ?_ ?_
      all_goals skip
      all_goals (rw [te2 hc1 (off_yes hc2)]; exact ret_refl rfl rfl)
    ·
      refine t_skip ?_
      refine i_then ?_
      refine t_seq ?_
      refine t_region ?_
      refine r_makeMap (Value.int .i64) VBool mapT169 rfl ?_
      refine asM rfl ?_
      refine r_nil ?_
      refine i_then ?_
      refine t_seq ?_
      refine t_seq ?_
      refine t_region ?_
      refine mvS rfl ?_
      refine r_len rfl rfl rfl ?_
      refine mvI rfl ?_
      refine r_nil ?_
      refine i_then ?_
      refine t_block ?_
      refine t_loop (fun (k : {k : Nat // k ≤ l.length}) => live [(1, Ty.sl I64 l), (2, Ty.pp [Ty.str (bs text)]), (6, Ty.mp 19), (19, Ty.sl I64 l), (20, Ty.int .i64 l.length), (21, Ty.int .i64 (k.1 : Nat))] [(19, Cont.mp (Value.int .i64) VBool (metK l k.1))]) (fun k => l.length - k.1) (⟨0, Nat.zero_le _⟩) ?_ fun k => ?_
      · (refine Ent.mk' ?_ ?_ <;> (repeat' (first | exact allSub_zero | exact allTags_nil | refine allSub_succ' ?_ (Ty.sub_any _) | refine allSub_succ' ?_ (Ty.sub_refl _) | refine allTags_cons rfl ?_ ?_)))
        all_goals exact Cont.sub_mp (metK_0 l)
      ·
        refine t_seq ?_
        refine t_region ?_
        refine r_bin rfl rfl rfl ?_
        refine r_nil ?_
        refine i_then ?_
        refine t_seq ?_
        refine t_cond_dec rfl (fun hc3 => ?_) (fun hc3 => ?_)
        ·
          refine t_skip ?_
          refine i_then ?_
          refine t_seq ?_
          refine t_block ?_
          refine t_seq ?_
          have hk : k.1 < l.length := by omega
          refine t_region ?_
          refine r_index_slN rfl rfl rfl rfl rfl rfl (by omega) ?_
          refine r_load_pp rfl rfl rfl rfl ?_
          refine asI rfl ?_
          refine r_nil ?_
          refine i_then ?_
          refine t_region ?_
          refine mvM rfl ?_
          refine mvI rfl ?_
          refine r_mapUpdate KI rfl rfl (by decide) rfl (keyI _) rfl rfl mapT169 ?_
          refine r_nil ?_
          refine i_block ?_
          refine i_then ?_
          refine t_region ?_
          refine r_add rfl rfl (by omega) (by omega) ?_
          refine mvI rfl ?_
          refine r_nil ?_
          refine i_round (⟨k.1 + 1, by omega⟩) ?_ (by show l.length - (k.1 + 1) < l.length - k.1; omega)
          (refine Ent.mk' ?_ ?_ <;> (repeat' (first | exact allSub_zero | exact allTags_nil | refine allSub_succ' ?_ (Ty.sub_any _) | refine allSub_succ' ?_ (Ty.sub_refl _) | refine allTags_cons rfl ?_ ?_)))
          all_goals skip
          all_goals exact Cont.sub_mp (metK_succ hk).symm
        ·
          refine t_exit ?_
          refine i_then_exit ?_
          refine i_then_exit ?_
          refine i_block_exit rfl ?_
          refine i_then ?_
          refine t_seq ?_
          refine t_seq ?_
          refine t_region ?_
          refine mvM rfl ?_
          refine r_lenMp rfl rfl (by decide) mapT169 ?_
          refine mvS rfl ?_
          refine r_len rfl rfl rfl ?_
          refine r_bin rfl rfl rfl ?_
          refine r_nil ?_
          refine i_then ?_
          refine t_cond_dec rfl (fun hc4 => ?_) (fun hc4 => ?_)
          ·
            refine t_seq ?_
            refine t_region ?_
            refine asS' rfl ?_
            refine asI rfl ?_
            refine r_nil ?_
            refine i_then ?_
            refine t_ret ?_
            refine i_then_ret ?_
            refine i_rp2 rfl rfl rfl ?_ ?_
            all_goals skip
            all_goals (rw [te3 hc1 (off_no hc2) (met_dup k.2 hc3 hc4)]; exact ret_refl rfl rfl)
          ·
            refine t_skip ?_
            refine i_then ?_
            refine t_seq ?_
            have hml : maxLen = 9223372036854775807 := rfl
            refine t_region ?_
            refine r_load_pp rfl rfl rfl rfl ?_
            refine r_convSB rfl rfl rfl rfl rfl Tryz.underlying5 (by omega) rfl ?_
            refine r_assign rfl ?_
            refine r_nil ?_
            refine i_then ?_
            refine t_seq ?_
            refine t_seq ?_
            refine t_region ?_
            refine r_move rfl ?_
            refine r_len_vs rfl rfl rfl ?_
            refine mvI rfl ?_
            refine r_nil ?_
            refine i_then ?_
            refine t_block ?_
            refine t_loop (fun (j : {j : Nat // j ≤ text.length}) => live [(6, Ty.mp 19), (9, Ty.vs 35 text.length), (35, Ty.vs 35 text.length), (36, Ty.int .i64 text.length), (37, Ty.int .i64 (j.1 : Nat))] [(19, Cont.mp (Value.int .i64) VBool (metK l k.1)), (35, Cont.bv 5 (tearP text l j.1))]) (fun j => text.length - j.1) (⟨0, Nat.zero_le _⟩) ?_ fun j => ?_
            · (refine Ent.mk' ?_ ?_ <;> (repeat' (first | exact allSub_zero | exact allTags_nil | refine allSub_succ' ?_ (Ty.sub_any _) | refine allSub_succ' ?_ (Ty.sub_refl _) | refine allTags_cons rfl (Cont.sub_refl _) ?_ | refine allTags_cons rfl ?_ ?_)))
              all_goals exact Cont.sub_bv (tp_0 text l)
            ·
              refine t_seq ?_
              refine t_region ?_
              refine r_bin rfl rfl rfl ?_
              refine r_nil ?_
              refine i_then ?_
              refine t_seq ?_
              refine t_cond_dec rfl (fun hc5 => ?_) (fun hc5 => ?_)
              ·
                refine t_skip ?_
                refine i_then ?_
                refine t_seq ?_
                refine t_block ?_
                refine t_seq ?_
                have hj : j.1 < text.length := by omega
                refine t_region ?_
                refine mvI rfl ?_
                refine asI rfl ?_
                refine r_nil ?_
                refine i_then ?_
                refine t_seq ?_
                refine t_region ?_
                refine mvM rfl ?_
                refine mvI rfl ?_
                refine r_lookup KI (z0 := false) rfl rfl (by decide) rfl (keyI _) mapT169 zero4 vb_zero ?_
                refine r_nil ?_
                refine i_then ?_
                refine t_cond rfl (fun hc6 => ?_) (fun hc6 => ?_)
                ·
                  refine t_region ?_
                  refine r_move rfl ?_
                  refine mvI rfl ?_
                  refine r_index_vs rfl rfl rfl rfl rfl (by omega) ?_
                  refine r_store_bv (i := j.1) (z := 63) rfl (Nat.mul_one _) rfl (by decide) rfl rfl rfl rfl (by rw [tp_len j.2]; exact hj) ?_
                  refine r_nil ?_
                  refine i_block ?_
                  refine i_then ?_
                  refine t_region ?_
                  refine r_add rfl rfl (by omega) (by omega) ?_
                  refine mvI rfl ?_
                  refine r_nil ?_
                  refine i_round (⟨j.1 + 1, by omega⟩) ?_ (by show text.length - (j.1 + 1) < text.length - j.1; omega)
                  (refine Ent.mk' ?_ ?_ <;> (repeat' (first | exact allSub_zero | exact allTags_nil | refine allSub_succ' ?_ (Ty.sub_any _) | refine allSub_succ' ?_ (Ty.sub_refl _) | refine allTags_cons rfl (Cont.sub_refl _) ?_ | refine allTags_cons rfl ?_ ?_)))
                  all_goals skip
                  all_goals exact Cont.sub_bv (tp_yes hj (met_in k.2 hc3 hc6))
                ·
                  refine t_skip ?_
                  refine i_block ?_
                  refine i_then ?_
                  refine t_region ?_
                  refine r_add rfl rfl (by omega) (by omega) ?_
                  refine mvI rfl ?_
                  refine r_nil ?_
                  refine i_round (⟨j.1 + 1, by omega⟩) ?_ (by show text.length - (j.1 + 1) < text.length - j.1; omega)
                  (refine Ent.mk' ?_ ?_ <;> (repeat' (first | exact allSub_zero | exact allTags_nil | refine allSub_succ' ?_ (Ty.sub_any _) | refine allSub_succ' ?_ (Ty.sub_refl _) | refine allTags_cons rfl (Cont.sub_refl _) ?_ | refine allTags_cons rfl ?_ ?_)))
                  all_goals skip
                  all_goals exact Cont.sub_bv (tp_no hj (met_out k.2 hc3 hc6))
              ·
                refine t_exit ?_
                refine i_then_exit ?_
                refine i_then_exit ?_
                refine i_block_exit rfl ?_
                refine i_then ?_
                refine t_seq ?_
                refine t_region ?_
                refine r_move rfl ?_
                refine r_convBS rfl rfl (by decide) (tp_len j.2).symm rfl rfl rfl rfl Tryz.underlying5 ?_
                refine asS' rfl ?_
                refine asI rfl ?_
                refine r_nil ?_
                refine i_then ?_
                refine t_ret ?_
                refine i_rp2 rfl rfl rfl ?_ ?_
                all_goals skip
                all_goals (rw [te4 hc1 (off_no hc2) (met_nod k.2 hc3 hc4), tp_end (by omega)]; exact ret_refl rfl rfl)
end Go.Proofs.YtjjndkenddigiaaGreatDoor

namespace Go.Proofs.YtjjndkenddigiaaGreatDoor
open Go Go.T
set_option maxHeartbeats 1000000
attribute [local irreducible] dInt dBool dSl dPp dPtr dAgg dTup dClo dAny dEx dStr dGd dCells dVec dVs dRow dOp nth Tri Into TOps Ctr bodyPost Exit.then Exit.inBlock Code.wp Code.wpIn dPa dArr dMp dMap CtrG keepPost iterPost bodyPostM roundQ
end Go.Proofs.YtjjndkenddigiaaGreatDoor

namespace Go.Proofs.YtjjndkenddigiaaGreatDoor
open Go Go.T
def byF (n i : Nat) : UInt8 := if n / 10 ^ i = 0 ∧ 0 < i then 32 else UInt8.ofNat (48 + n / 10 ^ i % 10)
def fldR (n w : Nat) : Byt := ((List.range w).map (byF n)).reverse
theorem fldR_succ (n w : Nat) : fldR n (w + 1) = byF n w :: fldR n w := by unfold fldR; rw [List.range_succ, List.map_append, List.reverse_append]; rfl
theorem fldR_len (n w : Nat) : (fldR n w).length = w := by simp [fldR]
theorem byF_shift {n i : Nat} (h : 10 ≤ n) : byF n (i + 1) = byF (n / 10) i := by
  have e : n / 10 ^ (i + 1) = n / 10 / 10 ^ i := by rw [Nat.pow_succ, Nat.mul_comm, Nat.div_div_eq_div_mul]
  unfold byF; rw [e]
  cases i with
  | zero => have : n / 10 ≠ 0 := by omega
            simp [this]
  | succ i => simp
theorem fldR_shift {n : Nat} (h : 10 ≤ n) : ∀ w, fldR n (w + 1) = fldR (n / 10) w ++ [UInt8.ofNat (48 + n % 10)]
  | 0 => by
    have : byF n 0 = UInt8.ofNat (48 + n % 10) := by unfold byF; rw [if_neg (by omega)]; simp
    rw [fldR_succ, this]; rfl
  | w + 1 => by rw [fldR_succ, fldR_shift h w, fldR_succ (n / 10) w, byF_shift h]; rfl
theorem fldR_small {n : Nat} (h : n < 10) : ∀ w, fldR n (w + 1) = List.replicate w 32 ++ [UInt8.ofNat (48 + n)]
  | 0 => by
    have : byF n 0 = UInt8.ofNat (48 + n) := by unfold byF; rw [if_neg (by omega)]; simp [Nat.mod_eq_of_lt h]
    rw [fldR_succ, this]; rfl
  | w + 1 => by
    have hp : 10 ≤ 10 ^ (w + 1) := by rw [Nat.pow_succ]; have := Nat.pow_pos (n := w) (show 0 < 10 by decide); omega
    have : byF n (w + 1) = 32 := by unfold byF; rw [if_pos ⟨Nat.div_eq_of_lt (by omega), by omega⟩]
    rw [fldR_succ, this, fldR_small h w]; rfl
theorem fldR_pad : ∀ (k n w : Nat), n < 10 ^ (k + 1) → 1 ≤ w → n < 10 ^ w → fldR n w = padW w (digF k n)
  | 0, n, w + 1, h, _, _ => by
    have h : n < 10 := by simpa using h
    rw [fldR_small h w]; simp [padW, digF]
  | k + 1, n, w + 1, h, _, h2 => by
    by_cases hn : n < 10
    · rw [fldR_small hn w, digF, if_pos hn]; simp [padW]
    · rw [fldR_shift (by omega) w, digF, if_neg hn]
      have hw : 1 ≤ w := by
        rcases Nat.eq_zero_or_pos w with e | e
        · subst e; simp at h2; omega
        · exact e
      rw [fldR_pad k (n / 10) w (by rw [Nat.pow_succ] at h; omega) hw (by rw [Nat.pow_succ] at h2; omega)]
      unfold padW
      rw [List.length_append, List.length_singleton, Nat.add_sub_add_right, List.append_assoc]
theorem fld_ref {n w : Int} (h0 : 0 ≤ n) (hw : 1 ≤ w) (hw2 : w ≤ 20) (h : n < ten w) : fldR n.toNat w.toNat = fldN n w := by
  unfold ten at h
  have : 10 ^ w.toNat ≤ 10 ^ 26 := Nat.pow_le_pow_right (by omega) (by omega)
  exact fldR_pad 25 n.toNat w.toNat (by show n.toNat < 10 ^ 26; omega) (by omega) (by omega)
end Go.Proofs.YtjjndkenddigiaaGreatDoor

namespace Go.Proofs.YtjjndkenddigiaaGreatDoor
open Go Go.T
set_option maxHeartbeats 1000000
def digS : Byt := [48, 49, 50, 51, 52, 53, 54, 55, 56, 57]
theorem dig_cut {m : Nat} : (digS.take (m % 10 + 1)).drop (m % 10) = [UInt8.ofNat (48 + m % 10)] := by
  have h : ∀ k : Fin 10, (digS.take (k.1 + 1)).drop k.1 = [UInt8.ofNat (48 + k.1)] := by decide
  exact h ⟨m % 10, Nat.mod_lt _ (by decide)⟩
theorem fr_1 {n i : Nat} (h : (decide (((n / 10 ^ i : Nat) : Int) = 0) && decide ((i : Int) > 0)) = true) : [32] ++ fldR n i = fldR n (i + 1) := by
  simp only [Bool.and_eq_true, decide_eq_true_eq] at h
  rw [fldR_succ]; unfold byF; rw [if_pos ⟨by omega, by omega⟩]; rfl
theorem fr_2 {n i : Nat} (h : (decide (((n / 10 ^ i : Nat) : Int) = 0) && decide ((i : Int) > 0)) = false) : (digS.take (n / 10 ^ i % 10 + 1)).drop (n / 10 ^ i % 10) ++ fldR n i = fldR n (i + 1) := by
  rw [dig_cut, fldR_succ]; unfold byF
  rw [if_neg]
  · rfl
  · intro hc
    have h1 : ((n / 10 ^ i : Nat) : Int) = 0 := by omega
    have h2 : (i : Int) > 0 := by omega
    simp [h1, h2] at h
    omega
theorem quo_eq (n i : Nat) : n / 10 ^ i / 10 = n / 10 ^ (i + 1) := by rw [Nat.div_div_eq_div_mul, Nat.pow_succ]
theorem quo_0 {n i : Nat} (h : (decide (((n / 10 ^ i : Nat) : Int) = 0) && decide ((i : Int) > 0)) = true) : ((n / 10 ^ i : Nat) : Int) = ((n / 10 ^ (i + 1) : Nat) : Int) := by
  simp only [Bool.and_eq_true, decide_eq_true_eq] at h
  rw [← quo_eq]
  have : n / 10 ^ i = 0 := by omega
  rw [this]
theorem fr_0 (n : Nat) : ([] : Byt) = fldR n 0 := rfl
theorem quo_w {n i : Nat} (h : n ≤ 1000000000) : IntKind.i64.wrap (Int.tdiv ((n / 10 ^ i : Nat) : Int) 10) = ((n / 10 ^ (i + 1) : Nat) : Int) := by
  have h2 : n / 10 ^ i / 10 ≤ n := Nat.le_trans (Nat.div_le_self _ _) (Nat.div_le_self _ _)
  rw [show Int.tdiv ((n / 10 ^ i : Nat) : Int) 10 = ((n / 10 ^ i / 10 : Nat) : Int) from rfl, IntWalk.i64_in ((n / 10 ^ i / 10 : Nat) : Int) (by generalize n / 10 ^ i / 10 = q at *; omega), quo_eq]
theorem div_le (n i : Nat) : n / 10 ^ i ≤ n := Nat.div_le_self _ _
attribute [local irreducible] fldR byF
attribute [local irreducible] dInt dBool dSl dPp dPtr dAgg dTup dClo dAny dEx dStr dGd dCells dVec dVs dRow dOp nth Tri Into TOps Ctr bodyPost Exit.then Exit.inBlock Code.wp Code.wpIn dPa dArr dMp dMap CtrG keepPost iterPost bodyPostM roundQ
set_option maxRecDepth 100000 in
theorem c_Field (n : Nat) (w : Int) (hn : n ≤ 1000000000) (h0 : 0 ≤ w) (hw : w ≤ 100) : Ctr Tryz.prog 123 [Ty.int .i64 (n : Nat), Ty.int .i64 w] (Ty.str (bs (fldR n w.toNat))) := by
  refine fn_intro Tryz.func123 rfl (by decide) Tryz.ntmps123 (by exact Nat.le_of_ble_eq_true rfl) fun w0 M0 => ?_
  refine t_seq ?_
  refine t_region ?_
  refine asS' rfl ?_
  refine r_nil ?_
  refine i_then ?_
  refine t_seq ?_
  refine t_region ?_
  refine asS' rfl ?_
  refine r_nil ?_
  refine i_then ?_
  refine t_seq ?_
  refine t_seq ?_
  refine t_region ?_
  refine asI rfl ?_
  refine r_nil ?_
  refine i_then ?_
  refine t_block ?_
  refine t_loop (fun (i : {i : Nat // (i : Int) ≤ w}) => live [(0, Ty.int .i64 ((n / 10 ^ i.1 : Nat) : Int)), (1, Ty.int .i64 w), (5, Ty.str (bs (fldR n i.1))), (6, Ty.int .i64 (i.1 : Nat))] []) (fun i => w.toNat - i.1) (⟨0, h0⟩) ?_ fun i => ?_
  · (refine Ent.mk' ?_ ?_ <;> (repeat' (first | exact allSub_zero | exact allTags_nil | refine allSub_succ' ?_ (Ty.sub_any _) | refine allSub_succ' ?_ (Ty.sub_refl _) | refine allSub_succ' ?_ ?_)))
    all_goals first | exact Ty.sub_int (by simp) | exact Ty.str_eq' (congrArg bs (fr_0 n))
  ·
    have hil := i.2
    have hdn := div_le n i.1
    have hfl := fldR_len n i.1
    refine t_seq ?_
    refine t_seq ?_
    refine t_region ?_
    refine mvI rfl ?_
    refine mvI rfl ?_
    refine r_bin rfl rfl rfl ?_
    refine r_nil ?_
    refine i_then ?_
    refine t_cond_dec rfl (fun hc1 => ?_) (fun hc1 => ?_)
    ·
      refine t_skip ?_
      refine i_then ?_
      refine t_seq ?_
      refine t_block ?_
      refine t_seq ?_
      refine t_seq ?_
      refine t_region ?_
      refine mvI rfl ?_
      refine r_bin rfl rfl rfl ?_
      refine mvB rfl ?_
      apply r_guard (s := 14) rfl rfl rfl
      · intro hg; apply opT_of; (refine mvI rfl ?_); refine r_nil ?_; exact rfl
      · exact rfl
      · exact rfl
      apply r_guard (s := 14) rfl rfl rfl
      · intro hg; apply opT_strip (s := 15) rfl (by (rw [hg]; rfl)); apply opT_of; (refine r_bin rfl rfl rfl ?_); refine r_nil ?_; exact rfl
      · exact rfl
      · exact rfl
      refine r_and rfl rfl ?_
      refine r_nil ?_
      refine i_then ?_
      refine t_cond rfl (fun hc2 => ?_) (fun hc2 => ?_)
      ·
        refine t_seq ?_
        refine t_region ?_
        refine mvS' rfl ?_
        refine r_catS rfl rfl (by (simp <;> omega)) ?_
        refine asS' rfl ?_
        refine r_nil ?_
        refine i_then ?_
        refine t_exit ?_
        refine i_then_exit ?_
        refine i_block_exit rfl ?_
        refine i_then ?_
        refine t_region ?_
        refine mvI rfl ?_
        refine r_add rfl rfl (by omega) (by omega) ?_
        refine asI rfl ?_
        refine r_nil ?_
        refine i_round (⟨i.1 + 1, by omega⟩) ?_ (by show w.toNat - (i.1 + 1) < w.toNat - i.1; omega)
        (refine Ent.mk' ?_ ?_ <;> (repeat' (first | exact allSub_zero | exact allTags_nil | refine allSub_succ' ?_ (Ty.sub_any _) | refine allSub_succ' ?_ (Ty.sub_refl _) | refine allSub_succ' ?_ ?_)))
        all_goals skip
        all_goals first | exact Ty.sub_int (quo_0 hc2) | exact Ty.str_eq (fr_1 hc2)
      ·
        refine t_skip ?_
        refine i_then ?_
        refine t_seq ?_
        have ht : Int.tmod ((n / 10 ^ i.1 : Nat) : Int) 10 = ((n / 10 ^ i.1 % 10 : Nat) : Int) := rfl
        have hm10 := Nat.mod_lt (n / 10 ^ i.1) (show 0 < 10 by decide)
        refine t_region ?_
        refine mvI rfl ?_
        refine r_rem rfl rfl (by omega) ?_
        refine mvI rfl ?_
        refine r_rem rfl rfl (by omega) ?_
        refine r_add rfl rfl (by omega) (by omega) ?_
        refine r_cutS (a := digS) (lo := n / 10 ^ i.1 % 10) (hi := n / 10 ^ i.1 % 10 + 1) rfl rfl rfl rfl rfl (by omega) (by show _ ≤ 10; have := Nat.mod_lt (n / 10 ^ i.1) (show 0 < 10 by decide); omega) ?_
        refine mvS' rfl ?_
        refine r_catS rfl rfl (by (simp <;> omega)) ?_
        refine asS' rfl ?_
        refine r_nil ?_
        refine i_then ?_
        refine t_region ?_
        refine mvI rfl ?_
        refine r_quo rfl rfl (by omega) ?_
        refine asI rfl ?_
        refine r_nil ?_
        refine i_block ?_
        refine i_then ?_
        refine t_region ?_
        refine mvI rfl ?_
        refine r_add rfl rfl (by omega) (by omega) ?_
        refine asI rfl ?_
        refine r_nil ?_
        refine i_round (⟨i.1 + 1, by omega⟩) ?_ (by show w.toNat - (i.1 + 1) < w.toNat - i.1; omega)
        (refine Ent.mk' ?_ ?_ <;> (repeat' (first | exact allSub_zero | exact allTags_nil | refine allSub_succ' ?_ (Ty.sub_any _) | refine allSub_succ' ?_ (Ty.sub_refl _) | refine allSub_succ' ?_ ?_)))
        all_goals skip
        all_goals first | exact Ty.sub_int (quo_w hn) | exact Ty.str_eq (fr_2 hc2)
    ·
      refine t_exit ?_
      refine i_then_exit ?_
      refine i_then_exit ?_
      refine i_block_exit rfl ?_
      refine i_then ?_
      refine t_seq ?_
      refine t_region ?_
      refine mvS' rfl ?_
      refine asS' rfl ?_
      refine r_nil ?_
      refine i_then ?_
      refine t_ret ?_
      refine i_rp1 rfl rfl ?_
      all_goals skip
      rw [show w.toNat = i.1 by omega]; exact ret_refl rfl rfl
theorem c_FieldI (n w : Int) (h0 : 0 ≤ n) (hn : n ≤ 1000000000) (h1 : 1 ≤ w) (hw : w ≤ 20) (h : n < ten w) : Ctr Tryz.prog 123 [Ty.int .i64 n, Ty.int .i64 w] (Ty.str (bs (fldN n w))) := by
  have := c_Field n.toNat w (by omega) (by omega) (by omega)
  rwa [Int.toNat_of_nonneg h0, fld_ref h0 h1 hw h] at this
set_option maxRecDepth 100000 in
theorem c_fields (f : BForm) (hf : FormOk f) (r : BRow) (hr : RowOk f r) : Ctr Tryz.prog 92 [frmT f, rowT r] (Ty.str (bs (bef f r f.widths.length))) := by
  refine fn_intro Tryz.func92 rfl (by decide) Tryz.ntmps92 (by exact Nat.le_of_ble_eq_true rfl) fun w0 M0 => ?_
  have hn := hf.n2
  have hlen := hr.len
  refine t_seq ?_
  refine t_region ?_
  refine r_box_agg rfl ?_
  refine r_box_agg rfl ?_
  refine asS' rfl ?_
  refine r_nil ?_
  refine i_then ?_
  refine t_seq ?_
  refine t_region ?_
  refine asS' rfl ?_
  refine r_nil ?_
  refine i_then ?_
  refine t_seq ?_
  refine t_seq ?_
  refine t_region ?_
  refine asI rfl ?_
  refine r_nil ?_
  refine i_then ?_
  refine t_block ?_
  refine t_loop (fun (c : {c : Nat // c ≤ f.widths.length}) => live [(2, Ty.pp (frmTys f)), (3, Ty.pp (BRowE.tys r)), (5, Ty.str (bs (bef f r c.1))), (6, Ty.int .i64 (c.1 : Nat))] []) (fun c => f.widths.length - c.1) (⟨0, Nat.zero_le _⟩) ?_ fun c => ?_
  · (refine Ent.mk' ?_ ?_ <;> (repeat' (first | exact allSub_zero | exact allTags_nil | refine allSub_succ' ?_ (Ty.sub_any _) | refine allSub_succ' ?_ (Ty.sub_refl _))))
    all_goals trace_state
  ·
    refine t_seq ?_
    refine t_seq ?_
    refine t_region ?_
    refine mvI rfl ?_
    refine r_field_pp rfl rfl rfl rfl rfl (by decide) ?_
    refine r_load_pp rfl rfl rfl rfl ?_
    refine r_len rfl rfl rfl ?_
    refine r_bin rfl rfl rfl ?_
    refine r_nil ?_
    refine i_then ?_
    refine t_cond_dec rfl (fun hc1 => ?_) (fun hc1 => ?_)
    ·
      refine t_skip ?_
      refine i_then ?_
      refine t_seq ?_
      refine t_block ?_
      have hcw : c.1 < f.widths.length := by omega
      have hnum := hr.num c.1 hcw
      have hwid := nth_wid hf hcw
      have htl := ten_le (w := nth f.widths c.1) (by omega)
      have ht4 := ten_4 (w := nth f.widths c.1) (by omega)
      have hbl := bef_len hf hr (c := c.1) c.2
      have hfl := fldN_len hnum.1 hwid.1 (by omega) hnum.2
      refine t_draw mixed rfl ?_
      refine mvS' rfl ?_
      refine r_field_pp rfl rfl rfl rfl rfl (by decide) ?_
      refine r_load_pp rfl rfl rfl rfl ?_
      refine mvI rfl ?_
      refine r_index_slN rfl rfl rfl rfl rfl rfl (by omega) ?_
      refine r_load_pp rfl rfl rfl rfl ?_
      refine r_field_pp rfl rfl rfl rfl rfl (by decide) ?_
      refine r_load_pp rfl rfl rfl rfl ?_
      refine mvI rfl ?_
      refine r_index_slN rfl rfl rfl rfl rfl rfl (by omega) ?_
      refine r_load_pp rfl rfl rfl rfl ?_
      refine r_call (c_FieldI _ _ hnum.1 (by omega) hwid.1 (by omega) hnum.2) rfl rfl rfl rfl rfl ?_
      refine r_catS rfl rfl (by omega) ?_
      refine asS' rfl ?_
      refine r_nil ?_
      refine ⟨by kernel_rfl, ?_⟩
      refine i_block ?_
      refine i_then ?_
      refine t_region ?_
      refine mvI rfl ?_
      refine r_add rfl rfl (by omega) (by omega) ?_
      refine asI rfl ?_
      refine r_nil ?_
      refine i_round (⟨c.1 + 1, by omega⟩) ?_ (by show f.widths.length - (c.1 + 1) < f.widths.length - c.1; omega)
      (refine Ent.mk' ?_ ?_ <;> (repeat' (first | exact allSub_zero | exact allTags_nil | refine allSub_succ' ?_ (Ty.sub_any _) | refine allSub_succ' ?_ (Ty.sub_refl _) | refine allSub_succ' ?_ ?_)))
      all_goals skip
      all_goals exact Ty.str_eq (bef_succ f r c.1).symm
    ·
      refine t_exit ?_
      refine i_then_exit ?_
      refine i_then_exit ?_
      refine i_block_exit rfl ?_
      refine i_then ?_
      refine t_seq ?_
      refine t_region ?_
      refine mvS' rfl ?_
      refine asS' rfl ?_
      refine r_nil ?_
      refine i_then ?_
      refine t_ret ?_
      refine i_rp1 rfl rfl ?_
      all_goals skip
      exact ret_eq rfl rfl (congrArg (fun k => Ty.str (bs (bef f r k))) (show c.1 = f.widths.length by omega))
def letS : Byt := (List.range 23).map fun k => UInt8.ofNat (97 + k)
theorem let_cut {f : BForm} {r : BRow} : (letS.take ((letN f r).toNat % 23 + 1)).drop ((letN f r).toNat % 23) = [letB f r] := by
  have h : ∀ k : Fin 23, (letS.take (k.1 + 1)).drop k.1 = [UInt8.ofNat (97 + k.1)] := by decide
  exact h ⟨(letN f r).toNat % 23, Nat.mod_lt _ (by decide)⟩
theorem let_s {S : Byt} {i : Nat} (h : i < S.length) : addL 0 (S.take (i + 1)) = addL 0 (S.take i) + bytA i (nth S i) := by
  rw [take_nth h, addL_snoc, List.length_take_of_le (by omega)]
set_option maxRecDepth 100000 in
theorem c_rLetter (f : BForm) (hf : FormOk f) (r : BRow) (hr : RowOk f r) : Ctr Tryz.prog 36 [frmT f, rowT r] (Ty.str (bs [letB f r])) := by
  refine fn_intro Tryz.func36 rfl (by decide) Tryz.ntmps36 (by exact Nat.le_of_ble_eq_true rfl) fun w0 M0 => ?_
  have hS := bef_fld hf hr (Nat.le_refl _)
  have hSl := bef_len hf hr (Nat.le_refl _)
  have hn2 := hf.n2
  have hlb := letN_bnd hf hr
  have hle := letN_bef f r
  refine t_seq ?_
  refine t_region ?_
  refine r_box_agg rfl ?_
  refine r_box_agg rfl ?_
  refine asS' rfl ?_
  refine r_nil ?_
  refine i_then ?_
  refine t_seq ?_
  refine t_region ?_
  refine r_load_ppN rfl rfl rfl (by exact Nat.le_of_ble_eq_true rfl) ?_
  refine r_load_ppN rfl rfl rfl (by exact Nat.le_of_ble_eq_true rfl) ?_
  refine r_call (c_fields f hf r hr) rfl rfl rfl rfl rfl ?_
  refine asS' rfl ?_
  refine r_nil ?_
  refine i_then ?_
  refine t_seq ?_
  refine t_region ?_
  refine asI rfl ?_
  refine r_nil ?_
  refine i_then ?_
  refine t_seq ?_
  refine t_seq ?_
  refine t_region ?_
  refine asI rfl ?_
  refine r_nil ?_
  refine i_then ?_
  refine t_block ?_
  refine t_loop (fun (i : {i : Nat // i ≤ (bef f r f.widths.length).length}) => live [(2, Ty.pp (frmTys f)), (3, Ty.pp (BRowE.tys r)), (5, Ty.str (bs (bef f r f.widths.length))), (6, Ty.int .i64 (addL 0 ((bef f r f.widths.length).take i.1))), (7, Ty.int .i64 (i.1 : Nat))] []) (fun i => (bef f r f.widths.length).length - i.1) (⟨0, Nat.zero_le _⟩) ?_ fun i => ?_
  · (refine Ent.mk' ?_ ?_ <;> (repeat' (first | exact allSub_zero | exact allTags_nil | refine allSub_succ' ?_ (Ty.sub_any _) | refine allSub_succ' ?_ (Ty.sub_refl _))))
    all_goals trace_state
  ·
    have hib := addL_small (l := (bef f r f.widths.length).take i.1) (fun x hx => hS x (List.mem_of_mem_take hx)) (by rw [List.length_take]; omega)
    refine t_seq ?_
    refine t_seq ?_
    refine t_region ?_
    refine mvI rfl ?_
    refine mvS' rfl ?_
    refine r_lenS rfl rfl rfl ?_
    refine r_bin rfl rfl rfl ?_
    refine r_nil ?_
    refine i_then ?_
    refine t_cond_dec rfl (fun hc1 => ?_) (fun hc1 => ?_)
    ·
      refine t_skip ?_
      refine i_then ?_
      refine t_seq ?_
      refine t_block ?_
      refine t_seq ?_
      have hi : i.1 < (bef f r f.widths.length).length := by omega
      have hx := hS _ (nth_mem hi)
      have hst := let_s hi
      refine t_region ?_
      refine mvS' rfl ?_
      refine mvI rfl ?_
      refine r_idxS (i := i.1) rfl rfl rfl rfl hi ?_
      refine r_bin rfl rfl rfl ?_
      refine r_nil ?_
      refine i_then ?_
      refine t_cond_ndec rfl (fun hc2 => ?_) (fun hc2 => ?_)
      ·
        have hb := bytA_fig (k := i.1) hx hc2
        have hbb := bytA_bnd hx i.1
        rw [hb.1] at hbb
        refine t_region ?_
        refine mvI rfl ?_
        refine mvI rfl ?_
        refine r_add rfl rfl (by omega) (by omega) ?_
        refine mvS' rfl ?_
        refine mvI rfl ?_
        refine r_idxS (i := i.1) rfl rfl rfl rfl hi ?_
        refine r_convK rfl rfl rfl rfl (IntWalk.i64_in ((nth (bef f r f.widths.length) i.1).toNat : Int) (by omega)) ?_
        refine r_sub rfl rfl (by omega) (by omega) ?_
        refine r_mul rfl rfl (by omega) (by omega) ?_
        refine r_add rfl rfl (by omega) (by omega) ?_
        refine asI rfl ?_
        refine r_nil ?_
        refine i_block ?_
        refine i_then ?_
        refine t_region ?_
        refine mvI rfl ?_
        refine r_add rfl rfl (by omega) (by omega) ?_
        refine asI rfl ?_
        refine r_nil ?_
        refine i_round (⟨i.1 + 1, by omega⟩) ?_ (by show (bef f r f.widths.length).length - (i.1 + 1) < (bef f r f.widths.length).length - i.1; omega)
        (refine Ent.mk' ?_ ?_ <;> (repeat' (first | exact allSub_zero | exact allTags_nil | refine allSub_succ' ?_ (Ty.sub_any _) | refine allSub_succ' ?_ (Ty.sub_refl _) | refine allSub_succ' ?_ ?_)))
        all_goals skip
        all_goals exact Ty.sub_int (by rw [hst, hb.1])
      ·
        refine t_skip ?_
        refine i_block ?_
        refine i_then ?_
        refine t_region ?_
        refine mvI rfl ?_
        refine r_add rfl rfl (by omega) (by omega) ?_
        refine asI rfl ?_
        refine r_nil ?_
        refine i_round (⟨i.1 + 1, by omega⟩) ?_ (by show (bef f r f.widths.length).length - (i.1 + 1) < (bef f r f.widths.length).length - i.1; omega)
        (refine Ent.mk' ?_ ?_ <;> (repeat' (first | exact allSub_zero | exact allTags_nil | refine allSub_succ' ?_ (Ty.sub_any _) | refine allSub_succ' ?_ (Ty.sub_refl _) | refine allSub_succ' ?_ ?_)))
        all_goals skip
        all_goals exact Ty.sub_int (by rw [hst, bytA_blank (by omega), Int.add_zero])
    ·
      refine t_exit ?_
      refine i_then_exit ?_
      refine i_then_exit ?_
      refine i_block_exit rfl ?_
      refine i_then ?_
      refine t_join (J := live [(6, Ty.int .i64 ((letN f r).toNat : Nat))] []) ?_ ?_
      ·
        refine t_seq ?_
        have hie : i.1 = (bef f r f.widths.length).length := by omega
        have hal : addL 0 ((bef f r f.widths.length).take i.1) = addL 0 (bef f r f.widths.length) := by rw [List.take_of_length_le (by omega)]
        refine t_region ?_
        refine r_field_pp rfl rfl rfl rfl rfl (by decide) ?_
        refine r_load_pp rfl rfl rfl rfl ?_
        refine r_nil ?_
        refine i_then ?_
        refine t_cond rfl (fun hc3 => ?_) (fun hc3 => ?_)
        ·
          refine t_region ?_
          refine mvI rfl ?_
          refine r_add rfl rfl (by omega) (by omega) ?_
          refine asI rfl ?_
          refine r_nil ?_
          refine i_join ?_
          (refine Ent.mk' ?_ ?_ <;> (repeat' (first | exact allSub_zero | exact allTags_nil | refine allSub_succ' ?_ (Ty.sub_any _) | refine allSub_succ' ?_ ?_)))
          all_goals exact Ty.sub_int (by rw [hc3] at hle; simp at hle; omega)
        ·
          refine t_skip ?_
          refine i_join ?_
          (refine Ent.mk' ?_ ?_ <;> (repeat' (first | exact allSub_zero | exact allTags_nil | refine allSub_succ' ?_ (Ty.sub_any _) | refine allSub_succ' ?_ ?_)))
          all_goals exact Ty.sub_int (by rw [hc3] at hle; simp at hle; omega)
      ·
        refine t_seq ?_
        have ht : Int.tmod (((letN f r).toNat : Nat) : Int) 23 = (((letN f r).toNat % 23 : Nat) : Int) := rfl
        refine t_region ?_
        refine mvI rfl ?_
        refine r_rem rfl rfl (by omega) ?_
        refine mvI rfl ?_
        refine r_rem rfl rfl (by omega) ?_
        refine r_add rfl rfl (by omega) (by omega) ?_
        refine r_cutS (a := letS) (lo := (letN f r).toNat % 23) (hi := (letN f r).toNat % 23 + 1) rfl rfl rfl rfl rfl (by omega) (by show _ ≤ 23; have := Nat.mod_lt (letN f r).toNat (show 0 < 23 by decide); omega) ?_
        refine asS' rfl ?_
        refine r_nil ?_
        refine i_then ?_
        refine t_ret ?_
        refine i_rp1 rfl rfl ?_
        all_goals skip
        exact ret_eq rfl rfl (congrArg (fun l => Ty.str (bs l)) let_cut)
end Go.Proofs.YtjjndkenddigiaaGreatDoor

namespace Go.Proofs.YtjjndkenddigiaaGreatDoor
open Go Go.T
end Go.Proofs.YtjjndkenddigiaaGreatDoor

namespace Go.Proofs.YtjjndkenddigiaaGreatDoor
open Go Go.T
set_option maxHeartbeats 1000000
attribute [local irreducible] sumC
attribute [local irreducible] dInt dBool dSl dPp dPtr dAgg dTup dClo dAny dEx dStr dGd dCells dVec dVs dRow dOp nth Tri Into TOps Ctr bodyPost Exit.then Exit.inBlock Code.wp Code.wpIn dPa dArr dMp dMap CtrG keepPost iterPost bodyPostM roundQ
end Go.Proofs.YtjjndkenddigiaaGreatDoor

namespace Go.Proofs.YtjjndkenddigiaaGreatDoor
open Go Go.T
set_option maxHeartbeats 1000000
attribute [local irreducible] sumC lnP lineB
attribute [local irreducible] dInt dBool dSl dPp dPtr dAgg dTup dClo dAny dEx dStr dGd dCells dVec dVs dRow dOp nth Tri Into TOps Ctr bodyPost Exit.then Exit.inBlock Code.wp Code.wpIn dPa dArr dMp dMap CtrG keepPost iterPost bodyPostM roundQ
end Go.Proofs.YtjjndkenddigiaaGreatDoor

namespace Go.Proofs.YtjjndkenddigiaaGreatDoor
open Go Go.T
def filS (f : BForm) (p : Rdr) (s t : Byt) : List (Byt × Rdr) := (fillR f p t).map fun x => (s ++ x.1, x.2)
def allF (f : BForm) (text : Byt) : List (Byt × Rdr) := fillR f Rdr.new text
theorem fil_all (f : BForm) (text : Byt) : filS f Rdr.new [] text = allF f text := by
  unfold filS allF
  induction fillR f Rdr.new text with
  | nil => rfl
  | cons x l ih => rw [List.map_cons, ih]; rfl
theorem fil_nil {f : BForm} {p : Rdr} {s : Byt} : filS f p s [] = if wholeR p = true then [(s, p)] else [] := by
  unfold filS fillR; split <;> simp
theorem fil_step {f : BForm} {p : Rdr} {s t : Byt} {c : UInt8} (h : c ≠ 63) (hc : c ∈ canR f p) : filS f p s (c :: t) = filS f (nextR f p c) (s ++ [c]) t := by
  unfold filS
  rw [fillR, if_pos h, show stepR f p c = some (nextR f p c) from if_pos hc]
  simp only [List.map_map]
  apply List.map_congr_left
  intro x _; simp
theorem fil_stop {f : BForm} {p : Rdr} {s t : Byt} {c : UInt8} (h : c ≠ 63) (hc : c ∉ canR f p) : filS f p s (c :: t) = [] := by
  unfold filS
  rw [fillR, if_pos h, show stepR f p c = none from if_neg hc]; rfl
theorem fil_torn {f : BForm} {p : Rdr} {s t : Byt} : filS f p s (63 :: t) = (canR f p).flatMap fun d => filS f (nextR f p d) (s ++ [d]) t := by
  unfold filS
  rw [fillR, if_neg (by decide), List.map_flatMap]
  congr 1
  funext d
  rw [List.map_map]
  apply List.map_congr_left
  intro x _; simp
def upF (f : BForm) (p : Rdr) (s t : Byt) (j : Nat) : List (Byt × Rdr) := ((canR f p).take j).flatMap fun d => filS f (nextR f p d) (s ++ [d]) t
theorem up_zero (f : BForm) (p : Rdr) (s t : Byt) : upF f p s t 0 = [] := by simp [upF]
theorem up_succ {f : BForm} {p : Rdr} {s t : Byt} {j : Nat} (h : j < (canR f p).length) : upF f p s t (j + 1) = upF f p s t j ++ filS f (nextR f p (nth (canR f p) j)) (s ++ [nth (canR f p) j]) t := by
  unfold upF; rw [take_nth h, List.flatMap_append]; simp
theorem up_all {f : BForm} {p : Rdr} {s t : Byt} : upF f p s t (canR f p).length = filS f p s (63 :: t) := by
  unfold upF; rw [List.take_length, fil_torn]
theorem up_pre {f : BForm} {p : Rdr} {s t : Byt} {j : Nat} (h : j < (canR f p).length) : upF f p s t j ++ filS f (nextR f p (nth (canR f p) j)) (s ++ [nth (canR f p) j]) t <+: filS f p s (63 :: t) := by
  rw [← up_succ h, fil_torn]
  refine ⟨((canR f p).drop (j + 1)).flatMap fun d => filS f (nextR f p d) (s ++ [d]) t, ?_⟩
  unfold upF
  rw [← List.flatMap_append, List.take_append_drop]
theorem pre_drop {α : Type} {l a b : List α} {k : Nat} (h : a ++ b <+: l.drop k) : b <+: l.drop (k + a.length) := by
  obtain ⟨r, e⟩ := h
  refine ⟨r, ?_⟩
  rw [← List.drop_drop, ← e, List.append_assoc, List.drop_left]
theorem pre_get {α : Type} {l : List α} {x : α} {k : Nat} (h : [x] <+: l.drop k) : l[k]? = some x := by
  obtain ⟨r, e⟩ := h
  have := congrArg List.head? e
  rw [List.head?_drop] at this
  exact this.symm
theorem drop_cons' {a : Byt} {k : Nat} (h : k < a.length) : a.drop k = nth a k :: a.drop (k + 1) := drop_nth h
def rdrPl (f : BForm) (p : Rdr) : List Ty := [Ty.sl I64 f.widths, Ty.int .i64 f.lines, Ty.int .i64 p.rows, Ty.int .i64 p.page, Ty.bool p.begun, Ty.bool p.closed, Ty.int .i64 p.column, Ty.int .i64 p.offset, Ty.int .i64 p.number, Ty.bool p.digits, Ty.sl BRowE p.read, Ty.str (bs p.must)]
def encF (f : BForm) (x : Byt × Rdr) : List Ty := [Ty.str (bs x.1), Ty.pp (rdrPl f x.2)]
theorem fillR_ok {f : BForm} : ∀ (t : Byt) (p : Rdr), RdrOk f p → ∀ x ∈ fillR f p t, RdrOk f x.2 ∧ wholeR x.2 = true ∧ x.1.length = t.length
  | [], p, ho, x, hx => by
    rw [fillR] at hx
    split at hx
    · rename_i hw; rw [List.mem_singleton.1 hx]; exact ⟨ho, hw, rfl⟩
    · cases hx
  | c :: t, p, ho, x, hx => by
    rw [fillR] at hx
    split at hx
    · rename_i hc
      unfold stepR at hx
      split at hx
      · cases hx
      · rename_i q hq
        split at hq
        · rename_i hm
          injection hq with hq
          subst hq
          obtain ⟨y, hy, rfl⟩ := List.mem_map.1 hx
          obtain ⟨h1, h2, h3⟩ := fillR_ok t _ (next_ok ho hm) y hy
          exact ⟨h1, h2, by simp [h3]⟩
        · cases hq
    · obtain ⟨d, hd, hx⟩ := List.mem_flatMap.1 hx
      obtain ⟨y, hy, rfl⟩ := List.mem_map.1 hx
      obtain ⟨h1, h2, h3⟩ := fillR_ok t _ (next_ok ho hd) y hy
      exact ⟨h1, h2, by simp [h3]⟩
end Go.Proofs.YtjjndkenddigiaaGreatDoor

namespace Go.T
open Go Go.RowKit
def viewF (Mc : Tags) (g : Option Nat) (own : Nat → Option Nat) : Tags := fun b => match Mc b with | none => none | some u => if u < Zt then some 7000 else if some b = g then some 1000 else match own b with | some t => some t | none => some 5000
structure OwnF (Mc : Tags) (g : Option Nat) (own : Nat → Option Nat) : Prop where
  at' : ∀ b t, own b = some t → Mc b = some (Zt + b) ∧ some b ≠ g ∧ 1001 < t ∧ t < 1010
  inj : ∀ b b' t, own b = some t → own b' = some t → b = b'
section
variable {Mc : Tags} {g : Option Nat} {own : Nat → Option Nat} {b : Nat}
theorem viewF_none (h : viewF Mc g own b = none) : Mc b = none := by
  unfold viewF at h
  split at h
  · assumption
  · split at h
    · cases h
    · split at h
      · cases h
      · split at h <;> cases h
theorem viewF_none' (h : Mc b = none) : viewF Mc g own b = none := by simp [viewF, h]
theorem viewF_g {b : Nat} (h : Mc b = some (Zt + b)) : viewF Mc (some b) own b = some 1000 := by
  have : ¬ Zt + b < Zt := by omega
  simp [viewF, h, this]
theorem viewF_own {t : Nat} (ho : OwnF Mc g own) (h : own b = some t) : viewF Mc g own b = some t := by
  obtain ⟨h1, h2, _⟩ := ho.at' b t h
  have : ¬ Zt + b < Zt := by omega
  simp [viewF, h1, h2, this, h]
theorem viewF_old (h : Mc b = some (Zt + b)) (hg : some b ≠ g) (ho : own b = none) : viewF Mc g own b = some 5000 := by
  have : ¬ Zt + b < Zt := by omega
  simp [viewF, h, hg, this, ho]
theorem viewF_wf {w : World} (wf : Wf w Mc) (ho : OwnF Mc g own) : Wf w (viewF Mc g own) := by
  refine ⟨fun b t h => ?_, fun b b' t ht h h' => ?_, wf.amb.same fun b h => viewF_none' h⟩
  · cases hm : Mc b with
    | none => rw [viewF_none' hm] at h; cases h
    | some u => exact wf.lt b u hm
  · have key : ∀ b, viewF Mc g own b = some (t + 1) → (some b = g ∧ t + 1 = 1000) ∨ own b = some (t + 1) := fun b h => by
      unfold viewF at h
      split at h
      · cases h
      · split at h
        · injection h with h; omega
        · split at h
          · injection h with h; rename_i hg; exact .inl ⟨hg, h.symm⟩
          · split at h
            · rename_i q hq; injection h with h; subst h; exact .inr hq
            · injection h with h; omega
    rcases key b h with ⟨e1, e2⟩ | e1 <;> rcases key b' h' with ⟨e3, e4⟩ | e3
    · rw [← e3] at e1; injection e1
    · have := (ho.at' _ _ e3).2.2.1; omega
    · have := (ho.at' _ _ e1).2.2.1; omega
    · exact ho.inj _ _ _ e1 e3
theorem viewF_ck {w : World} {J : World → Tags → Prop} (wf : Wf w Mc) (z : ZOk Mc) (hj : J w Mc) : dCK J w (viewF Mc g own) := by
  refine ⟨Mc, wf, z, hj, fun b h => viewF_none h, fun b u _ h hu => ?_⟩
  unfold viewF at h
  split at h
  · cases h
  · rename_i v hv
    split at h
    · injection h with h; exact absurd h.symm hu
    · rw [hv]; congr 1; exact z b v hv (by omega)
end
def takeF (own : Nat → Option Nat) (t : Nat) : Prop := t < Zt ∨ ∃ b, t = Zt + b ∧ own b ≠ none
def yPostF (own : Nat → Option Nat) (w : World) (Mc : Tags) (J1 Jx : World → Tags → Prop) (e : Ending) (w' : World) : Prop :=
  ∃ M', Wf w' M' ∧ ZOk M' ∧ Le (takeF own) (takeF own) w Mc w' M' ∧ ((e = .returned (.bool true) ∧ J1 w' M') ∨ (e = .returned (.bool false) ∧ Jx w' M'))
def MoreF (P : Program) (f : FuncId) (T : Nat) (capTys args : List Ty) (J0 J1 Jx : World → Tags → Prop) : Prop :=
  (∃ fn, P.funcs[f]? = some fn ∧ (fn.name == "runtime.NumGoroutine") = false ∧ fn.body.isNone = false) ∧
  ∀ (w : World) (Mc : Tags) (g : Nat) (own : Nat → Option Nat) (vs cs cs' : List Value), Wf w Mc → ZOk Mc → OwnF Mc (some g) own → dens w (viewF Mc (some g) own) args vs → dens w Mc capTys cs → dens w Mc capTys cs' → Mc g = some (Zt + g) →
    w.heap[g]? = some (.cells #[.func (.func f) #[] (cs' ++ [gp g]).toArray] T (0, 0)) → J0 w Mc →
    Calls P f (vs ++ (cs ++ [gp g])).toArray w (yPostF own w Mc J1 Jx)
def FndC (P : Program) (fv : Value) (encs : List (List Ty)) (J : Nat → World → Tags → Prop) (Jx : World → Tags → Prop) : Prop :=
  ∃ fid cs, fv = .func (.func fid) #[] cs ∧ (∃ fn, P.funcs[fid]? = some fn ∧ (fn.name == "runtime.NumGoroutine") = false ∧ fn.body.isNone = false) ∧
  ∀ (k : Nat) (tys : List Ty), encs[k]? = some tys → ∀ w Mc vs, Wf w Mc → ZOk Mc → J k w Mc → dens w Mc tys vs → Calls P fid (vs ++ cs.toList).toArray w (yPost w Mc (J (k + 1)) Jx)
def oldF (Mc : Tags) (g : Nat) (own : Nat → Option Nat) (b : Nat) : Prop := Mc b = some (Zt + b) ∧ b ≠ g ∧ own b = none
section
variable {P : Program}
theorem moreF_intro {f : FuncId} {fn : Func} {c : Code} {T : Nat} {capTys args : List Ty} {J0 J1 Jx : World → Tags → Prop} {n : Nat} (h0 : Cb J0) (hf : P.funcs[f]? = some fn) (hb : fn.body = some c) (hn : (fn.name == "runtime.NumGoroutine") = false) (hnt : fn.ntmps = n) (hl : (args ++ (capTys ++ [Ty.ptr 1000 0])).length ≤ n)
    (h3 : depsOf capTys = []) (h4 : cdepsOf capTys = [])
    (h : ∀ w Mc g own cs', Wf w Mc → ZOk Mc → OwnF Mc (some g) own → Mc g = some (Zt + g) → w.heap[g]? = some (.cells #[.func (.func f) #[] (cs' ++ [gp g]).toArray] T (0, 0)) →
      Tri P ⟨n, w, viewF Mc (some g) own, [7000, 5000, 1000], .marks⟩ c (entryG (args ++ (capTys ++ [Ty.ptr 1000 0])) [(7000, .ck h0), (1000, .cells T [.ex (.func (.func f) #[] (cs' ++ [gp g]).toArray)]), (1001, .me g T (.func (.func f) #[] (cs' ++ [gp g]).toArray) capTys cs' h3 h4), (5000, .snap w (oldF Mc g own))]) (bodyPostM Fence.wide 0 P fn (yPostF own w Mc J1 Jx))) : MoreF P f T capTys args J0 J1 Jx := by
  refine ⟨⟨fn, hf, hn, by rw [hb]; rfl⟩, fun w Mc g own vs cs cs' wf z ho hv hcs hcs' hg hh hj => callsIn_wide.1 (callsIn_of_wp_marks (n := 0) hf hb trivial (h w Mc g own cs' wf z ho hg hh _ _ ?_))⟩
  have hnn : ∀ b, Mc b = none → viewF Mc (some g) own b = none := fun b hb => viewF_none' hb
  have hg0 : viewF Mc (some g) own g = some 1000 := viewF_g hg
  have hall : dens w (viewF Mc (some g) own) (args ++ (capTys ++ [Ty.ptr 1000 0])) (vs ++ (cs ++ [gp g])) := dens_append hv (dens_append (conv_nodeps hnn h3 h4 hcs) ⟨⟨g, hg0, rfl⟩, trivial⟩)
  have hlen := dens_len hall
  refine ⟨viewF Mc (some g) own, ⟨viewF_wf wf ho, Le.refl _ _ _ _, by simp [hnt]; simp at hlen hl; omega, Defs.nil⟩, fun c hc => ?_, fun x hx => ?_⟩
  · simp only [entryG]
    cases ha : (args ++ (capTys ++ [Ty.ptr 1000 0]))[c]? with
    | none => trivial
    | some ty =>
      obtain ⟨v, hv, hdv⟩ := dens_get hall c ty ha
      have : ((vs ++ (cs ++ [gp g])).toArray ++ Array.replicate (fn.ntmps - (vs ++ (cs ++ [gp g])).toArray.size) undef).getD c undef = v := by
        have hlt : c < (vs ++ (cs ++ [gp g])).length := (List.getElem?_eq_some_iff.1 hv).1
        rw [Array.getD_eq_getD_getElem?, Array.getElem?_append_left (by simpa using hlt), List.getElem?_toArray, hv]; rfl
      rw [this]; exact hdv
  · simp only [entryG, List.mem_cons, List.not_mem_nil, or_false] at hx
    rcases hx with rfl | rfl | rfl | rfl
    · exact ⟨rfl, viewF_ck wf z hj⟩
    · exact ⟨g, _, hg0, hh, rfl, trivial⟩
    · exact ⟨hg0, hh, conv_nodeps hnn h3 h4 hcs'⟩
    · intro b ⟨hb1, hb2, hb3⟩
      exact ⟨viewF_old hb1 (by simpa using hb2) hb3, rfl⟩
section
variable {A : As} {fn : Func} {n : Nat} {J1 Jx : World → Tags → Prop}
theorem fret_le {w w' : World} {Mc M Mc' : Tags} {g T : Nat} {own : Nat → Option Nat} {v : Value} {tys : List Ty} {cs : List Value} {h3 : depsOf tys = []} {h4 : cdepsOf tys = []} (z : ZOk Mc) (wf : Wf w Mc) (hg : w.heap[g]? = some (.cells #[v] T (0, 0)))
    (hb : Le (fun t => 1 ≤ t) (fun t => 1 ≤ t ∧ t ∉ [7000, 5000, 1000]) w (viewF Mc (some g) own) w' M) (hm : (Cont.me g T v tys cs h3 h4).den w' M 1001) (ho : (Cont.snap w (oldF Mc g own)).den w' M 5000) (k1 : ∀ b, M b = none → Mc' b = none) (k2 : ∀ b u, b < w'.heap.size → M b = some u → u ≠ 7000 → Mc' b = some (Zt + b)) :
    Le (takeF own) (takeF own) w Mc w' Mc' := by
  refine ⟨hb.size, hb.os, hb.tape, hb.out, fun b hlt h => ?_, fun b t h ht => ?_⟩
  · obtain ⟨a, c⟩ := hb.pub b hlt (viewF_none' h)
    exact ⟨k1 b a, c⟩
  · have hz : ¬ t < Zt := fun e => ht (.inl e)
    have e := z b t h (by omega)
    subst e
    have hlt : b < w'.heap.size := Nat.lt_of_lt_of_le (wf.lt b _ h) hb.size
    have hno : own b = none := Classical.byContradiction fun e => ht (.inr ⟨b, rfl, e⟩)
    by_cases e : b = g
    · subst e
      exact ⟨k2 b 1000 hlt hm.1 (by decide), fun _ => hm.2.1.trans hg.symm⟩
    · obtain ⟨a, c⟩ := ho b ⟨h, e, hno⟩
      exact ⟨k2 b 5000 hlt a (by decide), fun _ => c⟩
variable [T : Tab P]
theorem results_cell1 {tm ty b : Nat} {ti : TI} {v : Value} {w : World} {tmps : Array Value} (hr : fn.results = #[.cell tm ty]) (hT : T.tab[ty]? = some ti) (ha : ti.k.agg = false) (e : tmps.getD tm undef = .pointer (some ⟨b, 0, none⟩)) (hc : w.cell? ⟨b, 0, none⟩ = some v) : (results fn tmps).run P w = .ok v w := by
  have hload : (loadVar ty ⟨b, 0, none⟩).run P w = .ok v w := by
    have := run_load1 (P := P) hT ha (w := w) (b := b) (off := 0) hc
    simpa [Instr.loadAt, Instr.sureAddr] using this
  have e'' : tmps[tm]?.getD undef = .pointer (some ⟨b, 0, none⟩) := by rw [← Array.getD_eq_getD_getElem?]; exact e
  simp [results, hr, e'', asAddr, hload]
theorem cell_at {tm tg Tb : Nat} {ty : Ty} {w : World} {M : Tags} {x : Value} (wf : Wf w M) (hx : (Ty.ptr tg 0).den w M x) (hc : (Cont.cells Tb [ty]).den w M tg) (h1 : Tag1 tg) : ∃ b v, x = .pointer (some ⟨b, 0, none⟩) ∧ w.cell? ⟨b, 0, none⟩ = some v ∧ ty.den w M v := by
  obtain ⟨b, hb, e⟩ := hx
  obtain ⟨b', ⟨cs⟩, hb', hh, hds⟩ := hc
  obtain ⟨u, rfl⟩ : ∃ u, tg = u + 1 := ⟨tg - 1, by have := h1.1; omega⟩
  have := wf.inj b b' u h1.2 hb hb'
  subst this
  match cs, hds with
  | [v], ⟨hv, _⟩ => exact ⟨b, v, e, by simp [World.cell?, hh], hv⟩
theorem i_retFy {tm ty tg Tb g Tg : Nat} {ti : TI} {w : World} {Mc : Tags} {own : Nat → Option Nat} {v : Value} {tys : List Ty} {cs : List Value} {t : Ty} {h3 : depsOf tys = []} {h4 : cdepsOf tys = []} {h1 : Cb J1} {hx : Cb Jx} (z : ZOk Mc) (wf : Wf w Mc) (hg : w.heap[g]? = some (.cells #[v] Tg (0, 0))) (hr : fn.results = #[.cell tm ty]) (htm : Nat.blt tm n = true) (hs : A.slots tm = .ptr tg 0) (hc : A.tag tg = some (.cells Tb [t])) (h1' : Tag1 tg) (hT : T.tab[ty]? = some ti) (ha : ti.k.agg = false) (hm : A.tag 1001 = some (.me g Tg v tys cs h3 h4)) (ho : A.tag 5000 = some (.snap w (oldF Mc g own))) (ht : t.Sub (.yb true h1 hx)) :
    Into ⟨n, w, viewF Mc (some g) own, [7000, 5000, 1000], .plain⟩ A (bodyPost P fn (yPostF own w Mc J1 Jx) .ret) := by
  intro a w' ⟨M, ok, hsl, htg⟩
  have hd := hsl tm (by simpa using htm)
  rw [hs] at hd
  obtain ⟨b, x, e, hcl, hdx⟩ := cell_at (tm := tm) ok.wf hd (htg _ (tag_mem hc)) h1'
  have hres := results_cell1 (P := P) (fn := fn) hr hT ha e hcl
  rcases ht _ _ _ hdx with ⟨ev, Mc', wf', z', hj, k1, k2⟩ | ⟨ev, Mc', wf', z', hj, k1, k2⟩
  · exact ⟨ok.nodefers (by simp), _, hres, Mc', wf', z', fret_le (h3 := h3) (h4 := h4) z wf hg ok.base (htg _ (tag_mem hm)) (htg _ (tag_mem ho)) k1 k2, .inl ⟨by rw [ev], hj⟩⟩
  · exact ⟨ok.nodefers (by simp), _, hres, Mc', wf', z', fret_le (h3 := h3) (h4 := h4) z wf hg ok.base (htg _ (tag_mem hm)) (htg _ (tag_mem ho)) k1 k2, .inr ⟨by rw [ev]; rfl, hj⟩⟩
theorem i_retFt {tm ty tg Tb g Tg : Nat} {ti : TI} {w : World} {Mc : Tags} {own : Nat → Option Nat} {v : Value} {tys : List Ty} {cs : List Value} {h3 : depsOf tys = []} {h4 : cdepsOf tys = []} {J : World → Tags → Prop} {hj : Cb J} (z : ZOk Mc) (wf : Wf w Mc) (e : J = J1) (hg : w.heap[g]? = some (.cells #[v] Tg (0, 0))) (hr : fn.results = #[.cell tm ty]) (htm : Nat.blt tm n = true) (hs : A.slots tm = .ptr tg 0) (hc : A.tag tg = some (.cells Tb [.bool true])) (h1' : Tag1 tg) (hT : T.tab[ty]? = some ti) (ha : ti.k.agg = false) (hm : A.tag 1001 = some (.me g Tg v tys cs h3 h4)) (ho : A.tag 5000 = some (.snap w (oldF Mc g own))) (hk : A.tag 7000 = some (.ck hj)) :
    Into ⟨n, w, viewF Mc (some g) own, [7000, 5000, 1000], .plain⟩ A (bodyPost P fn (yPostF own w Mc J1 Jx) .ret) := by
  subst e
  intro a w' ⟨M, ok, hsl, htg⟩
  have hd := hsl tm (by simpa using htm)
  rw [hs] at hd
  obtain ⟨b, x, e, hcl, hdx⟩ := cell_at (tm := tm) ok.wf hd (htg _ (tag_mem hc)) h1'
  have hres := results_cell1 (P := P) (fn := fn) hr hT ha e hcl
  have ev : x = .bool true := hdx
  obtain ⟨_, Mc', wf', z', hj, k1, k2⟩ := htg _ (tag_mem hk)
  exact ⟨ok.nodefers (by simp), _, hres, Mc', wf', z', fret_le (h3 := h3) (h4 := h4) z wf hg ok.base (htg _ (tag_mem hm)) (htg _ (tag_mem ho)) k1 k2, .inl ⟨by rw [ev], hj⟩⟩
theorem i_retFx {tm ty tg Tb g Tg : Nat} {ti : TI} {w : World} {Mc : Tags} {own : Nat → Option Nat} {v : Value} {tys : List Ty} {cs : List Value} {h3 : depsOf tys = []} {h4 : cdepsOf tys = []} {hx : Cb Jx} (z : ZOk Mc) (wf : Wf w Mc) (hg : w.heap[g]? = some (.cells #[v] Tg (0, 0))) (hr : fn.results = #[.cell tm ty]) (htm : Nat.blt tm n = true) (hs : A.slots tm = .ptr tg 0) (hc : A.tag tg = some (.cells Tb [.bool false])) (h1' : Tag1 tg) (hT : T.tab[ty]? = some ti) (ha : ti.k.agg = false) (hm : A.tag 1001 = some (.me g Tg v tys cs h3 h4)) (ho : A.tag 5000 = some (.snap w (oldF Mc g own))) (hk : A.tag 7000 = some (.ck hx)) :
    Into ⟨n, w, viewF Mc (some g) own, [7000, 5000, 1000], .plain⟩ A (bodyPost P fn (yPostF own w Mc J1 Jx) .ret) := by
  intro a w' ⟨M, ok, hsl, htg⟩
  have hd := hsl tm (by simpa using htm)
  rw [hs] at hd
  obtain ⟨b, x, e, hcl, hdx⟩ := cell_at (tm := tm) ok.wf hd (htg _ (tag_mem hc)) h1'
  have hres := results_cell1 (P := P) (fn := fn) hr hT ha e hcl
  have ev : x = .bool false := hdx
  obtain ⟨_, Mc', wf', z', hj, k1, k2⟩ := htg _ (tag_mem hk)
  exact ⟨ok.nodefers (by simp), _, hres, Mc', wf', z', fret_le (h3 := h3) (h4 := h4) z wf hg ok.base (htg _ (tag_mem hm)) (htg _ (tag_mem ho)) k1 k2, .inr ⟨by rw [ev], hj⟩⟩
end
variable {fr : Fr} {ops : Array Oper} {A : As} {rest : List Oper} {K : As → List (As × Fx) → Prop} {d : Nat} {t ty' : TypeId} {p : String} {e : Array Edge}
theorem r_callFnd {c k : Nat} {fv : Value} {encs : List (List Ty)} {J : Nat → World → Tags → Prop} {Jx : World → Tags → Prop} (hJ : ∀ k, Cb (J k)) (hJx : Cb Jx) (hF : FndC P fv encs J Jx) {xs : List Operand} {ats : Array TypeId} {tys : List Ty}
    (hc : A.op fr (.tmp c) = .ex fv) (hx : opsTy A fr xs = tys) (hd : depsOf tys = []) (hdc : cdepsOf tys = []) (hk : encs[k]? = some tys) (ht : A.tag 7000 = some (.ck (hJ k)))
    (h : TOps P fr ops rest (A.after { d := some d, ty := .yb true (hJ (k + 1)) hJx, S := [7000], rs := c :: xs.flatMap opR, rt := [7000] }) fun A' l' => K A' ((A, { d := some d, ty := .yb true (hJ (k + 1)) hJx, S := [7000], rs := c :: xs.flatMap opR, rt := [7000] }) :: l')) :
    TOps P fr ops (⟨some d, .call ⟨.value (.tmp c), xs.toArray, ats⟩, t, p, e, none⟩ :: rest) A K := by
  refine ⟨{ d := some d, ty := .yb true (hJ (k + 1)) hJx, S := [7000], rs := c :: xs.flatMap opR, rt := [7000] }, ⟨rfl, by simp, by simp, by simp, fun a w M wf hsz hrd htg => ?_⟩, h⟩
  rw [if_pos (by simp [Region.wanted])]
  have hcv := op_den (x := .tmp c) (rs := c :: xs.flatMap opR) (fun u hu => by exact (List.mem_singleton.1 hu) ▸ List.mem_cons_self) hrd
  rw [hc] at hcv
  obtain ⟨fid, cs, efv, ⟨fn, hf, hn, hb⟩, hcall⟩ := hF
  subst efv
  have hcv : a.eval (.tmp c) = .func (.func fid) #[] cs := hcv
  obtain ⟨_, Mc, wfc, z, hj, h1, h2⟩ := htg _ (tag_mem ht) (by simp)
  have hv : dens w Mc tys (xs.map a.eval) := conv_nodeps h1 hd hdc (hx ▸ opsTy_dens (rs := c :: xs.flatMap opR) hrd fun x hx c hc => List.mem_cons_of_mem _ (List.mem_flatMap.2 ⟨x, hx, hc⟩))
  have hn' : fn.name ≠ "runtime.NumGoroutine" := by simpa using hn
  have hb' : fn.body ≠ none := fun h => by rw [h] at hb; cases hb
  refine wp_in_enter (f := fid) (args := (xs.map a.eval ++ cs.toList).toArray) (by simp [execOp, resolve, hcv, Deferred.ofValue, invoke, callFunc, hf, hn', hb']) ((hcall k tys hk w Mc _ wfc z hj hv).mono fun en w' ⟨Mc', wf', z', le, hor⟩ => ?_)
  obtain ⟨g1, g2, g3, g4⟩ := backY_ok wf wf' h1 h2 le
  rcases hor with ⟨rfl, hj'⟩ | ⟨rfl, hj'⟩
  · exact ⟨.bool true, rfl, .bool true, rfl, _, g1, g2, .inl ⟨rfl, Mc', wf', z', hj', g3, g4⟩, by simp⟩
  · exact ⟨.bool false, rfl, .bool false, rfl, _, g1, g2, .inr ⟨rfl, Mc', wf', z', hj', g3, g4⟩, by simp⟩
def ownM (M : Tags) (ρ : List (Nat × Nat)) (b : Nat) : Option Nat := (M b).bind fun t => ρ.lookup t
def handOk (fr : Fr) (ρ : List (Nat × Nat)) (tg : Nat) : Bool := reOk ρ && ρ.all fun x => !fr.pass.contains x.1 && (!(x.1 == 7000) && (!(x.1 == tg) && (Nat.blt 1001 x.2 && Nat.blt x.2 1010)))
theorem handOk_spec {fr : Fr} {ρ : List (Nat × Nat)} {tg : Nat} (h : handOk fr ρ tg = true) : reOk ρ = true ∧ ∀ x ∈ ρ, x.1 ∉ fr.pass ∧ x.1 ≠ 7000 ∧ x.1 ≠ tg ∧ 1001 < x.2 ∧ x.2 < 1010 := by
  simp only [handOk, Bool.and_eq_true, List.all_eq_true, Bool.not_eq_true', Nat.blt_eq, beq_eq_false_iff_ne] at h
  refine ⟨h.1, fun x hx => ?_⟩
  obtain ⟨h1, h2, h3, h4, h5⟩ := h.2 x hx
  exact ⟨by simpa using h1, h2, h3, h4, h5⟩
def backF (w : World) (ρ : List (Nat × Nat)) (M Mc' : Tags) : Tags := fun b => if b < w.heap.size ∧ ownM M ρ b = none then M b else (Mc' b).map fun _ => 7000
theorem hand_view {w : World} {M Mc : Tags} {ρ : List (Nat × Nat)} {tg g : Nat} {fr : Fr} (hok : handOk fr ρ tg = true) (wf : Wf w M) (hg : M g = some tg) (h1 : ∀ b, M b = none → Mc b = none) (h2 : ∀ b u, b < w.heap.size → M b = some u → u ≠ 7000 → Mc b = some (Zt + b)) :
    OwnF Mc (some g) (ownM M ρ) ∧ Re ρ M (viewF Mc (some g) (ownM M ρ)) := by
  obtain ⟨hr, hq⟩ := handOk_spec hok
  have part : ∀ b t, ownM M ρ b = some t → ∃ u, M b = some u ∧ (u, t) ∈ ρ := fun b t h => by
    obtain ⟨u, hu, hl⟩ := Option.bind_eq_some_iff.1 h
    exact ⟨u, hu, lookup_mem' hl⟩
  have how : OwnF Mc (some g) (ownM M ρ) := by
    refine ⟨fun b t h => ?_, fun b b' t h h' => ?_⟩
    · obtain ⟨u, hu, hm⟩ := part b t h
      obtain ⟨_, e2, e3, e4, e5⟩ := hq _ hm
      refine ⟨h2 b u (wf.lt b u hu) hu e2, fun e => ?_, e4, e5⟩
      injection e with e
      subst e
      rw [hu] at hg; injection hg with hg; exact e3 hg
    · obtain ⟨u, hu, hm⟩ := part b t h
      obtain ⟨u', hu', hm'⟩ := part b' t h'
      have e : u = u' := ((reOk_spec hr _ hm).2.2 _ hm').2 rfl
      subst e
      obtain ⟨v, rfl⟩ : ∃ v, u = v + 1 := ⟨u - 1, by have := (reOk_spec hr _ hm).1; omega⟩
      exact wf.inj b b' v (by have := reOk_fam hr hm; have := (hq _ hm).2.2.2.2; omega) hu hu'
  refine ⟨how, ⟨fun b h => viewF_none' (h1 b h), fun x hx b h => viewF_own how ?_⟩⟩
  unfold ownM
  rw [h]; exact mem_lookup' hr hx
theorem backF_ok {w w' : World} {M Mc Mc' : Tags} {ρ : List (Nat × Nat)} (wf : Wf w M) (wf' : Wf w' Mc') (h1 : ∀ b, M b = none → Mc b = none) (h2 : ∀ b u, b < w.heap.size → M b = some u → u ≠ 7000 → Mc b = some (Zt + b)) (le : Le (takeF (ownM M ρ)) (takeF (ownM M ρ)) w Mc w' Mc') :
    Wf w' (backF w ρ M Mc') ∧ Le (· ∈ [7000]) (· ∈ ρ.map Prod.fst) w M w' (backF w ρ M Mc') ∧ (∀ b, backF w ρ M Mc' b = none → Mc' b = none) ∧ ∀ b u, b < w'.heap.size → backF w ρ M Mc' b = some u → u ≠ 7000 → Mc' b = some (Zt + b) := by
  have pubK : ∀ b, M b = none → ownM M ρ b = none := fun b h => by simp [ownM, h]
  have keep : ∀ b u, M b = some u → u ∉ ρ.map Prod.fst → ownM M ρ b = none := fun b u h hu => by
    unfold ownM
    rw [h]
    show ρ.lookup u = none
    cases hl : ρ.lookup u with
    | none => rfl
    | some c => exact absurd (List.mem_map.2 ⟨_, lookup_mem' hl, rfl⟩) hu
  have stay : ∀ b u, M b = some u → ownM M ρ b = none → u ≠ 7000 → Mc' b = some (Zt + b) ∧ w'.heap[b]? = w.heap[b]? := fun b u h ho hu => by
    have ht : ¬ takeF (ownM M ρ) (Zt + b) := by
      rintro (h | ⟨q, h, hq⟩)
      · omega
      · have : q = b := by omega
        subst this; exact hq ho
    obtain ⟨a, c⟩ := le.own b _ (h2 b u (wf.lt b u h) h hu) ht
    exact ⟨a, c ht⟩
  unfold backF
  refine ⟨⟨fun b u h => ?_, fun b b' u ht1 h h' => ?_, wf.amb.of fun b hb hm => ⟨by simp [hb, hm, pubK b hm], (le.pub b hb (h1 b hm)).2⟩⟩, ⟨le.size, le.os, le.tape, le.out, fun b hb hm => ⟨by simp [hb, hm, pubK b hm], (le.pub b hb (h1 b hm)).2⟩, fun b u hm hk => ⟨?_, fun hs => ?_⟩⟩, fun b h => ?_, fun b u _ h hu => ?_⟩
  · split at h
    · rename_i hc; exact Nat.lt_of_lt_of_le hc.1 le.size
    · obtain ⟨v, hv, _⟩ := Option.map_eq_some_iff.1 h
      exact wf'.lt b v hv
  · have part : ∀ b, (if b < w.heap.size ∧ ownM M ρ b = none then M b else (Mc' b).map fun _ => 7000) = some (u + 1) → M b = some (u + 1) := fun b h => by
      split at h
      · exact h
      · obtain ⟨v, _, hv⟩ := Option.map_eq_some_iff.1 h
        omega
    exact wf.inj b b' u ht1 (part b h) (part b' h')
  · rw [if_pos ⟨wf.lt b u hm, keep b u hm hk⟩]; exact hm
  · have hu : u ≠ 7000 := fun e => hs (by simp [e])
    exact (stay b u hm (keep b u hm hk) hu).2
  · split at h
    · rename_i hc; exact (le.pub b hc.1 (h1 b h)).1
    · simpa using h
  · split at h
    · rename_i hc; exact (stay b u h hc.2 hu).1
    · obtain ⟨v, _, hv⟩ := Option.map_eq_some_iff.1 h
      exact absurd hv.symm hu
theorem run_callFuncF {f : FuncId} {T : Nat} {capTys args : List Ty} {J0 J1 Jx : World → Tags → Prop} (hF : MoreF P f T capTys args J0 J1 Jx) (vs : Array Value) (w : World) : (callFunc f vs).run P w = .ok (.enter f vs) w := by
  obtain ⟨⟨fn, hf, hn, hb⟩, _⟩ := hF
  have hn' : fn.name ≠ "runtime.NumGoroutine" := by simpa using hn
  have hb' : fn.body ≠ none := fun h => by rw [h] at hb; cases hb
  simp [callFunc, hf, hn', hb']
theorem r_callF (ρ : List (Nat × Nat)) {c f T g : Nat} {capTys args ss : List Ty} {cs' : List Value} {J0 J1 Jx : World → Tags → Prop} (h0 : Cb J0) (h1 : Cb J1) (hx : Cb Jx) (hM : MoreF P f T capTys args J0 J1 Jx) {h3 : depsOf capTys = []} {h4 : cdepsOf capTys = []} {xs : List Operand} {ats : Array TypeId}
    (hc : A.op fr (.tmp c) = .ex (.func (.func f) #[] (cs' ++ [gp g]).toArray)) (hxs : opsTy A fr xs = ss) (hl : Convs ρ ss args) (hok : handOk fr ρ 1000 = true)
    (hme : A.tag 1001 = some (.me g T (.func (.func f) #[] (cs' ++ [gp g]).toArray) capTys cs' h3 h4)) (hck : A.tag 7000 = some (.ck h0))
    (h : TOps P fr ops rest (A.after { d := some d, ty := .yb true h1 hx, S := [7000], K := ρ.map Prod.fst, rs := c :: xs.flatMap opR, rt := [7000, 1001] }) fun A' l' => K A' ((A, { d := some d, ty := .yb true h1 hx, S := [7000], K := ρ.map Prod.fst, rs := c :: xs.flatMap opR, rt := [7000, 1001] }) :: l')) :
    TOps P fr ops (⟨some d, .call ⟨.value (.tmp c), xs.toArray, ats⟩, t, p, e, none⟩ :: rest) A K := by
  obtain ⟨hro, hq⟩ := handOk_spec hok
  refine ⟨{ d := some d, ty := .yb true h1 hx, S := [7000], K := ρ.map Prod.fst, rs := c :: xs.flatMap opR, rt := [7000, 1001] }, ⟨rfl, by simp, by simp, fun u hu => by
    obtain ⟨x, hx, rfl⟩ := List.mem_map.1 hu
    exact ⟨(reOk_spec hro x hx).1, (hq x hx).1⟩, fun a w M wf hsz hrd htg => ?_⟩, h⟩
  rw [if_pos (by simp [Region.wanted])]
  have hcv := op_den (x := .tmp c) (rs := c :: xs.flatMap opR) (fun u hu => by exact (List.mem_singleton.1 hu) ▸ List.mem_cons_self) hrd
  rw [hc] at hcv
  have hcv : a.eval (.tmp c) = .func (.func f) #[] (cs' ++ [gp g]).toArray := hcv
  obtain ⟨e1, e2, e3⟩ := htg _ (tag_mem hme) (by simp)
  obtain ⟨_, Mc, wfc, z, hj, k1, k2⟩ := htg _ (tag_mem hck) (by simp)
  have hg : g < w.heap.size := (Array.getElem?_eq_some_iff.1 e2).1
  obtain ⟨how, hre⟩ := hand_view hok wf e1 k1 k2
  have hv : dens w (viewF Mc (some g) (ownM M ρ)) args (xs.map a.eval) := convs_dens wf (viewF_wf wfc how) hre hl (hxs ▸ opsTy_dens (rs := c :: xs.flatMap opR) hrd fun x hx c hc => List.mem_cons_of_mem _ (List.mem_flatMap.2 ⟨x, hx, hc⟩))
  have hcs : dens w Mc capTys cs' := conv_nodeps k1 h3 h4 e3
  have hcall := hM.2 w Mc g (ownM M ρ) _ cs' cs' wfc z how hv hcs hcs (k2 g 1000 hg e1 (by decide)) e2 hj
  refine wp_in_enter (f := f) (args := (xs.map a.eval ++ (cs' ++ [gp g])).toArray) (by simp [execOp, resolve, hcv, Deferred.ofValue, invoke, run_callFuncF hM]) (hcall.mono fun en w' ⟨Mc', wf', z', le, hor⟩ => ?_)
  obtain ⟨g1, g2, g3, g4⟩ := backF_ok wf wf' k1 k2 le
  rcases hor with ⟨rfl, hj'⟩ | ⟨rfl, hj'⟩
  · exact ⟨.bool true, rfl, .bool true, rfl, _, g1, g2, .inl ⟨rfl, Mc', wf', z', hj', g3, g4⟩, by simp⟩
  · exact ⟨.bool false, rfl, .bool false, rfl, _, g1, g2, .inr ⟨rfl, Mc', wf', z', hj', g3, g4⟩, by simp⟩
theorem r_callF0 (ρ : List (Nat × Nat)) {dst : Option Nat} {c f T tg : Nat} {capTys args ss : List Ty} {J0 J1 Jx : World → Tags → Prop} (h0 : Cb J0) (h1 : Cb J1) (hx : Cb Jx) (hM : MoreF P f T capTys args J0 J1 Jx) (h3 : depsOf capTys = []) (h4 : cdepsOf capTys = []) {xs : List Operand} {ats : Array TypeId}
    (hc : A.op fr (.tmp c) = .clo f (capTys ++ [.ptr tg 0])) (hxs : opsTy A fr xs = ss) (hl : Convs ρ ss args) (hok : handOk fr ρ tg = true)
    (hcell : A.tag tg = some (.cells T [.clo f (capTys ++ [.ptr tg 0])])) (htg1 : Tag1 tg) (hck : A.tag 7000 = some (.ck h0))
    (h : TOps P fr ops rest (A.after { d := dst, ty := Ty.any, S := [7000], K := ρ.map Prod.fst, sets := [(7000, Cont.ce h1 hx)], rs := c :: xs.flatMap opR, rt := [7000, tg] }) fun A' l' => K A' ((A, { d := dst, ty := Ty.any, S := [7000], K := ρ.map Prod.fst, sets := [(7000, Cont.ce h1 hx)], rs := c :: xs.flatMap opR, rt := [7000, tg] }) :: l')) :
    TOps P fr ops (⟨dst, .call ⟨.value (.tmp c), xs.toArray, ats⟩, t, p, e, none⟩ :: rest) A K := by
  obtain ⟨hro, hq⟩ := handOk_spec hok
  refine ⟨_, ⟨rfl, by simp, by simp, fun u hu => by
    obtain ⟨x, hx, rfl⟩ := List.mem_map.1 hu
    exact ⟨(reOk_spec hro x hx).1, (hq x hx).1⟩, fun a w M wf hsz hrd htg => ?_⟩, h⟩
  rw [if_pos (by simp [Region.wanted])]
  have hcv := op_den (x := .tmp c) (rs := c :: xs.flatMap opR) (fun u hu => by exact (List.mem_singleton.1 hu) ▸ List.mem_cons_self) hrd
  rw [hc] at hcv
  obtain ⟨⟨cl⟩, ev, hcl⟩ := hcv
  have split : ∀ (l : List Value), dens w M (capTys ++ [.ptr tg 0]) l → ∃ cs b, l = cs ++ [gp b] ∧ dens w M capTys cs ∧ M b = some tg := fun l hl => by
    have hlen := dens_len hl
    rw [List.length_append, List.length_singleton] at hlen
    have g1 := dens_take capTys.length hl
    have g2 := dens_drop capTys.length hl
    rw [List.take_left] at g1
    rw [List.drop_left] at g2
    have e1 : (l.drop capTys.length).length = 1 := by rw [List.length_drop]; omega
    obtain ⟨v, hv⟩ := List.length_eq_one_iff.1 e1
    rw [hv] at g2
    obtain ⟨⟨b, hb, ev⟩, _⟩ := g2
    exact ⟨_, b, by subst ev; have h9 := List.take_append_drop capTys.length l; rw [hv] at h9; exact h9.symm, g1, hb⟩
  obtain ⟨cs, g, rfl, hcs, hg⟩ := split _ hcl
  obtain ⟨b', ⟨cells⟩, hb', hh, hdd⟩ := htg _ (tag_mem hcell) (by simp)
  obtain ⟨u, rfl⟩ : ∃ u, tg = u + 1 := ⟨tg - 1, by have := htg1.1; omega⟩
  have hbg : g = b' := wf.inj g b' u htg1.2 hg hb'
  subst hbg
  obtain ⟨v', rfl⟩ : ∃ v', cells = [v'] := by
    have hlen := dens_len hdd
    exact List.length_eq_one_iff.1 (by simpa using hlen)
  obtain ⟨⟨⟨cl'⟩, ev', hcl'⟩, _⟩ := hdd
  obtain ⟨cs', g', rfl, hcs', hg'⟩ := split _ hcl'
  have hgg : g' = g := wf.inj g' g u htg1.2 hg' hg
  subst hgg
  subst ev'
  obtain ⟨_, Mc, wfc, z, hj, k1, k2⟩ := htg _ (tag_mem hck) (by simp)
  have hgs : g' < w.heap.size := (Array.getElem?_eq_some_iff.1 hh).1
  have hcv : a.eval (.tmp c) = .func (.func f) #[] (cs ++ [gp g']).toArray := ev
  obtain ⟨how, hre⟩ := hand_view hok wf hg k1 k2
  have hv : dens w (viewF Mc (some g') (ownM M ρ)) args (xs.map a.eval) := convs_dens wf (viewF_wf wfc how) hre hl (hxs ▸ opsTy_dens (rs := c :: xs.flatMap opR) hrd fun x hx c hc => List.mem_cons_of_mem _ (List.mem_flatMap.2 ⟨x, hx, hc⟩))
  have hcall := hM.2 w Mc g' (ownM M ρ) _ cs cs' wfc z how hv (conv_nodeps k1 h3 h4 hcs) (conv_nodeps k1 h3 h4 hcs') (k2 g' _ hgs hg (by have := htg1.2; omega)) hh hj
  refine wp_in_enter (f := f) (args := (xs.map a.eval ++ (cs ++ [gp g'])).toArray) (by simp [execOp, resolve, hcv, Deferred.ofValue, invoke, run_callFuncF hM]) (hcall.mono fun en w' ⟨Mc', wf', z', le, hor⟩ => ?_)
  obtain ⟨g1, g2, g3, g4⟩ := backF_ok wf wf' k1 k2 le
  rcases hor with ⟨rfl, hj'⟩ | ⟨rfl, hj'⟩
  · exact ⟨.bool true, rfl, .bool true, rfl, _, g1, g2, trivial, fun x hx => by rw [List.mem_singleton.1 hx]; exact ⟨rfl, .inl ⟨Mc', wf', z', hj', g3, g4⟩⟩⟩
  · exact ⟨.bool false, rfl, .bool false, rfl, _, g1, g2, trivial, fun x hx => by rw [List.mem_singleton.1 hx]; exact ⟨rfl, .inr ⟨Mc', wf', z', hj', g3, g4⟩⟩⟩
end
end Go.T

namespace Go.T
open Go Go.RowKit
def CtrFd (P : Program) (f : FuncId) (args : Value → List Ty) (encs : List (List Ty)) : Prop :=
  (∃ fn, P.funcs[f]? = some fn ∧ (fn.name == "runtime.NumGoroutine") = false ∧ fn.body.isNone = false) ∧
  ∀ fv J Jx, (∀ k, Cb (J k)) → Cb Jx → FndC P fv encs J Jx → ∀ w M us, Wf w M → ZOk M → dens w M (args fv) us → J 0 w M → Calls P f us.toArray w (izPost w M encs.length J Jx)
theorem CtrG.ex {P : Program} {f : FuncId} {F : List Nat} {pre post : List (Nat × Cont)} {args : List Ty} {res : Ty} (h : CtrG P f F pre args post res) : ∃ fn, P.funcs[f]? = some fn ∧ (fn.name == "runtime.NumGoroutine") = false ∧ fn.body.isNone = false := h.1
section
variable {P : Program}
theorem fnFd_intro {f : FuncId} {fn : Func} {c : Code} {args : Value → List Ty} {encs : List (List Ty)} {n : Nat} (hf : P.funcs[f]? = some fn) (hb : fn.body = some c) (hn : (fn.name == "runtime.NumGoroutine") = false) (hnt : fn.ntmps = n) (hl : ∀ v, (args v).length ≤ n) (hdd : ∀ v, depsOf (args v) = [] ∧ cdepsOf (args v) = [])
    (h : ∀ fv J Jx (hJ : ∀ k, Cb (J k)) (hJx : Cb Jx), FndC P fv encs J Jx → ∀ w0 Mc, Wf w0 Mc → ZOk Mc → Tri P ⟨n, w0, startM Mc none, [7000, 5000], .plain⟩ c (entryG (args fv) [(7000, .ck (hJ 0)), (5000, .snap w0 (oldZ Mc))]) (bodyPost P fn (izPost w0 Mc encs.length J Jx))) : CtrFd P f args encs := by
  refine ⟨⟨fn, hf, hn, by rw [hb]; rfl⟩, fun fv J Jx hJ hJx hF w Mc vs wf z hd hj => calls_of_wp hf hb (wpIn_wide.1 (h fv J Jx hJ hJx hF w Mc wf z _ _ ?_))⟩
  have hall : dens w (startM Mc none) (args fv) vs := conv_nodeps (fun b hb => startM_none' hb) (hdd fv).1 (hdd fv).2 hd
  have hlen := dens_len hall
  have hl := hl fv
  refine ⟨startM Mc none, ⟨startM_wf wf, Le.refl _ _ _ _, by simp [hnt, hlen]; omega, Defs.nil⟩, fun c hc => ?_, fun x hx => ?_⟩
  · simp only [entryG]
    cases ha : (args fv)[c]? with
    | none => trivial
    | some ty =>
      obtain ⟨v, hv, hdv⟩ := dens_get hall c ty ha
      have : (vs.toArray ++ Array.replicate (fn.ntmps - vs.toArray.size) undef).getD c undef = v := by
        have hlt : c < vs.length := (List.getElem?_eq_some_iff.1 hv).1
        rw [Array.getD_eq_getD_getElem?, Array.getElem?_append_left (by simpa using hlt)]
        simp [hv]
      rw [this]; exact hdv
  · simp only [entryG, List.mem_cons, List.not_mem_nil, or_false] at hx
    rcases hx with rfl | rfl
    · exact ⟨rfl, startM_ck wf z hj⟩
    · intro b hb
      refine ⟨?_, rfl⟩
      have : ¬ Zt + b < Zt := by omega
      have hb : Mc b = some (Zt + b) := hb
      simp [startM, hb, this]
theorem i_retFd {A : As} {fn : Func} {n m k : Nat} {w0 : World} {Mc : Tags} {J : Nat → World → Tags → Prop} {Jx : World → Tags → Prop} {hJ : ∀ k, Cb (J k)} {h1 : Cb (J k)} {hx : Cb Jx} (z : ZOk Mc) (wf : Wf w0 Mc) (e : k = m) (hr : fn.results = #[]) (ht : A.tag 7000 = some (.ce h1 hx)) (ho : A.tag 5000 = some (.snap w0 (oldZ Mc))) : Into ⟨n, w0, startM Mc none, [7000, 5000], .plain⟩ A (bodyPost P fn (izPost w0 Mc m J Jx) .normal) := by
  subst e
  intro a w' ⟨M, ok, hsl, htg⟩
  obtain ⟨_, h | h⟩ := htg _ (tag_mem ht)
  · obtain ⟨Mc', wf', z', hj, k1, k2⟩ := h
    exact ⟨ok.nodefers (by simp), _, results_none hr _ _ _, _, Mc', rfl, wf', z', zret_le z wf ok.base (htg _ (tag_mem ho)) k1 k2, .inl hj⟩
  · obtain ⟨Mc', wf', z', hj, k1, k2⟩ := h
    exact ⟨ok.nodefers (by simp), _, results_none hr _ _ _, _, Mc', rfl, wf', z', zret_le z wf ok.base (htg _ (tag_mem ho)) k1 k2, .inr hj⟩
def JF (p : Prop) (S K : List Nat) (w1 : World) (M1 : Tags) (tgs : List (Nat × Cont)) (w : World) (M : Tags) : Prop :=
  p ∧ Le (· ∈ S) (· ∈ K) w1 M1 w M ∧ ∀ x ∈ tgs, x.2.den w M x.1
theorem JF_cb {p : Prop} {S K : List Nat} {w1 : World} {M1 : Tags} {tgs : List (Nat × Cont)} (hM : ∀ b u, M1 b = some u → u < Zt) (ht : tagsOk tgs = true) : Cb (JF p S K w1 M1 tgs) := by
  intro w M w' M' wf' le ⟨hp, h1, h2⟩
  refine ⟨hp, ⟨Nat.le_trans h1.size le.size, le.os.trans h1.os, le.tape.trans h1.tape, le.out.trans h1.out, fun b hb hm => ?_, fun b t hm hk => ?_⟩, fun x hx => ?_⟩
  · obtain ⟨a, c⟩ := h1.pub b hb hm
    obtain ⟨a', c'⟩ := le.pub b (Nat.lt_of_lt_of_le hb h1.size) a
    exact ⟨a', c'.trans c⟩
  · have := hM b t hm
    obtain ⟨a, c⟩ := h1.own b t hm hk
    obtain ⟨a', c'⟩ := le.own b t a (by omega)
    exact ⟨a', fun hs => (c' (by omega)).trans (c hs)⟩
  · obtain ⟨⟨_, e2⟩, e3, e4⟩ := tagsOk_spec ht x hx
    exact x.2.mono le (fun t ht hz => by have := (e3 t ht).2; omega) (fun t ht hz => by have := (e4 t ht).2; omega) (by omega) (by omega) (h2 x hx)
theorem fnd_of {fid : FuncId} {encs : List (List Ty)} {caps : List Ty} {cs : Array Value} {S K mv F : List Nat} {w1 : World} {M1 : Tags} {px : Prop} {ok : Nat → Prop} {tgs : Nat → List (Nat × Cont)} {tgx : List (Nat × Cont)} {ρ : List (Nat × Nat)} {pre post : Nat → List (Nat × Cont)} {argsF : Nat → List Ty} {go : Nat → Bool}
    (hex : ∃ fn, P.funcs[fid]? = some fn ∧ (fn.name == "runtime.NumGoroutine") = false ∧ fn.body.isNone = false)
    (hG : ∀ k, ok k → k < encs.length → CtrG P fid F (pre k) (argsF k) (post k) (Ty.bool (go k)))
    (hcs : dens w1 M1 caps cs.toList) (hdk : disj (depsOf caps) K = true) (hds : disj (cdepsOf caps) S = true)
    (hr : reOk ρ = true) (hmv : ∀ x ∈ ρ, x.1 ∈ mv ∨ x.2 ∈ F) (hmr : ∀ t ∈ mv, ∃ g, (t, g) ∈ ρ) (hS : ∀ t ∈ ρ.map Prod.fst, t ∈ S ∧ t < Zt) (hK : ∀ t ∈ mv, t ∈ K ∧ t < Zt)
    (hpub : ∀ tys ∈ encs, depsOf tys = [] ∧ cdepsOf tys = [])
    (harg : ∀ k tys, encs[k]? = some tys → Convs ρ (tys ++ caps) (argsF k))
    (hpre : ∀ k, PreCs ⟨anyT, tgs k⟩ ρ (pre k))
    (hpost1 : ∀ k, ok k → go k = true → PostCs (post k) ρ (tgs (k + 1))) (hpostx : ∀ k, ok k → go k = false → PostCs (post k) ρ tgx)
    (hok1 : ∀ k, ok k → k < encs.length → go k = true → ok (k + 1)) (hokx : ∀ k, ok k → k < encs.length → go k = false → px) :
    FndC P (.func (.func fid) #[] cs) encs (fun k => JF (ok k) S K w1 M1 (tgs k)) (JF px S K w1 M1 tgx) := by
  refine ⟨fid, cs, rfl, hex, fun k tys hk w Mc vs wf z ⟨hok, hle, htg⟩ hv => ?_⟩
  have hkl : k < encs.length := (List.getElem?_eq_some_iff.1 hk).1
  have hcs' : dens w Mc caps cs.toList := dens_mono hle (fun t ht hk => disj_spec hdk t ht hk) (fun t ht hs => disj_spec hds t ht hs) hcs
  have wfg := giveG_wf hr wf
  have hre := giveG_re hr (M := Mc)
  have hc := (hG k hok hkl).2 w _ (vs ++ cs.toList) wfg (convs_dens wf wfg hre (harg k tys hk) (dens_append hv hcs')) (pre_get (A := ⟨anyT, tgs k⟩) wf wfg hre (fun x hx _ => htg x hx) (hpre k))
  refine hc.mono fun en w' ⟨r, M', he, wf', le, hden, hp⟩ => ?_
  obtain ⟨h1, h2, h3⟩ := callG_left (mv := mv) hr hmv hmr wf wf' le
  have hz : ZOk (backG w ρ mv Mc M') := fun b u h hu => by
    unfold backG at h
    split at h
    · exact z b u h hu
    · obtain ⟨q, _, hl⟩ := Option.bind_eq_some_iff.1 h
      have hm := lookup_mem' hl
      obtain ⟨x, hx, e⟩ := List.mem_map.1 hm
      injection e with e1 e2
      have := (hS x.1 (List.mem_map.2 ⟨x, hx, rfl⟩)).2
      omega
  have hleN : Le (· ∈ S) (· ∈ K) w1 M1 w' (backG w ρ mv Mc M') := (hle.trans h2).weaken (fun t ht => ht.elim id fun h => (hS t h).1) (fun t ht => ht.elim id fun h => (hK t h).1)
  have hleZ : Le (fun t => t < Zt) (fun t => t < Zt) w Mc w' (backG w ρ mv Mc M') := h2.weaken (fun t ht => (hS t ht).2) (fun t ht => (hK t ht).2)
  have er : r = .bool (go k) := hden
  cases hgo : go k with
  | true => exact ⟨_, h1, hz, hleZ, .inl ⟨by rw [he, er, hgo], hok1 k hok hkl hgo, hleN, fun x hx => (post_get wf' h1 h3 hp (hpost1 k hok hgo) x hx).2⟩⟩
  | false => exact ⟨_, h1, hz, hleZ, .inr ⟨by rw [he, er, hgo], hokx k hok hkl hgo, hleN, fun x hx => (post_get wf' h1 h3 hp (hpostx k hok hgo) x hx).2⟩⟩
variable {fr : Fr} {ops : Array Oper} {A : As} {rest : List Oper} {K' : As → List (As × Fx) → Prop} {d : Nat} {t ty' : TypeId} {p : String} {e : Array Edge}
theorem opT_callFd {dst : Option Nat} {f fid : FuncId} {args : Value → List Ty} {encs : List (List Ty)} {xs : List Operand} {ats : Array TypeId} {ss caps : List Ty} {S K mv F : List Nat} {px : Prop} {ok : Nat → Prop} {tgs : Nat → List (Nat × Cont)} {tgx sets : List (Nat × Cont)} {ρ : List (Nat × Nat)} {pre post : Nat → List (Nat × Cont)} {argsF : Nat → List Ty} {go : Nat → Bool}
    (hF : CtrFd P f args encs) (hx : opsTy A fr xs = ss) (hfv : ∀ w M vs, dens w M ss vs → ∃ cs : Array Value, dens w M caps cs.toList ∧ dens w M (args (.func (.func fid) #[] cs)) vs) (hdd : ∀ v, depsOf (args v) = [] ∧ cdepsOf (args v) = [])
    (hex : ∃ fn, P.funcs[fid]? = some fn ∧ (fn.name == "runtime.NumGoroutine") = false ∧ fn.body.isNone = false)
    (hG : ∀ k, ok k → k < encs.length → CtrG P fid F (pre k) (argsF k) (post k) (Ty.bool (go k)))
    (hdk : disj (depsOf caps) K = true) (hds : disj (cdepsOf caps) S = true) (hcz : inZ (depsOf caps) = true)
    (hr : reOk ρ = true) (hmv : ∀ x ∈ ρ, x.1 ∈ mv ∨ x.2 ∈ F) (hmr : ∀ t ∈ mv, ∃ g, (t, g) ∈ ρ) (hS : ∀ t ∈ ρ.map Prod.fst, t ∈ S ∧ t < Zt) (hK : ∀ t ∈ mv, t ∈ K ∧ t < Zt)
    (hpub : ∀ tys ∈ encs, depsOf tys = [] ∧ cdepsOf tys = [])
    (harg : ∀ k tys, encs[k]? = some tys → Convs ρ (tys ++ caps) (argsF k))
    (hpre : ∀ k, PreCs ⟨anyT, tgs k⟩ ρ (pre k))
    (hpost1 : ∀ k, ok k → go k = true → PostCs (post k) ρ (tgs (k + 1))) (hpostx : ∀ k, ok k → go k = false → PostCs (post k) ρ tgx)
    (hok0 : ok 0) (hok1 : ∀ k, ok k → k < encs.length → go k = true → ok (k + 1)) (hokx : ∀ k, ok k → k < encs.length → go k = false → px)
    (htk : ∀ k, tagsOk (tgs k) = true) (htx : tagsOk tgx = true) (hc0 : allTags A (tgs 0)) (hS1 : ∀ t ∈ S, 1 ≤ t) (hK1 : ∀ t ∈ K, 1 ≤ t ∧ t ∉ fr.pass)
    (hout : ∀ x ∈ sets, x.1 ∈ S ∨ x.1 ∈ K) (hts : tagsOk sets = true) (hend : ok encs.length → ∀ w M, (∀ x ∈ tgs encs.length, x.2.den w M x.1) → ∀ x ∈ sets, x.2.den w M x.1) (hendx : px → ∀ w M, (∀ x ∈ tgx, x.2.den w M x.1) → ∀ x ∈ sets, x.2.den w M x.1) :
    OpT P fr ops ⟨dst, .call ⟨.value (.func f), xs.toArray, ats⟩, t, p, e, none⟩ A { d := dst, ty := Ty.any, S := S, K := K, sets := sets, rs := xs.flatMap opR, rt := A.tags.map Prod.fst } := by
  refine ⟨rfl, hout, hS1, hK1, fun a w M wf hsz hrd htg => ?_⟩
  rw [if_pos (by simp [Region.wanted])]
  have hvs : dens w M ss (xs.map a.eval) := hx ▸ opsTy_dens (rs := xs.flatMap opR) hrd fun x hx c hc => List.mem_flatMap.2 ⟨x, hx, hc⟩
  obtain ⟨cs, hcs, hav⟩ := hfv w M _ hvs
  have wfz := foldZ_wf wf
  have hzz : ZOk (foldZ M) := fun b u h hu => by have := foldZ_u h; omega
  have hle : Le (fun t => Zt ≤ t) (fun t => Zt ≤ t) w M w (foldZ M) := ⟨Nat.le_refl _, rfl, rfl, rfl, fun b _ hm => ⟨foldZ_none hm, rfl⟩, fun b u hm hk => ⟨foldZ_lt hm (Nat.lt_of_not_le hk), fun _ => rfl⟩⟩
  have hlt : ∀ b u, foldZ M b = some u → u < Zt := fun b u h => foldZ_u h
  have hcs' : dens w (foldZ M) caps cs.toList := dens_mono (S := fun _ => False) (K := fun t => Zt ≤ t) ⟨Nat.le_refl _, rfl, rfl, rfl, hle.pub, fun b u hm hk => ⟨(hle.own b u hm hk).1, fun _ => rfl⟩⟩ (fun t ht hz => by have := (inZ_spec hcz t ht).2; omega) (fun _ _ h => h) hcs
  have htg0 : ∀ x ∈ tgs 0, x.2.den w (foldZ M) x.1 := fun x hx => by
    obtain ⟨C, hC, hsub⟩ := allTags_get hc0 x hx
    have hm := tag_mem hC
    obtain ⟨⟨_, e2⟩, e3, e4⟩ := tagsOk_spec (htk 0) x hx
    refine x.2.mono (S := fun _ => False) (K := fun t => Zt ≤ t) ⟨Nat.le_refl _, rfl, rfl, rfl, hle.pub, fun b u hm hk => ⟨(hle.own b u hm hk).1, fun _ => rfl⟩⟩ (fun t ht hz => by have := (e3 t ht).2; omega) (fun _ _ h => h) (fun h => h) (by omega) (hsub _ _ _ (htg _ hm (List.mem_map.2 ⟨_, hm, rfl⟩)))
  have hfnd := fnd_of (P := P) (px := px) (ok := ok) (w1 := w) (M1 := foldZ M) hex hG hcs' hdk hds hr hmv hmr hS hK hpub harg hpre hpost1 hpostx hok1 hokx
  have hcall := hF.2 _ _ _ (fun k => JF_cb hlt (htk k)) (JF_cb hlt htx) hfnd w (foldZ M) _ wfz hzz (conv_nodeps (fun b h => foldZ_none h) (hdd _).1 (hdd _).2 hav) ⟨hok0, Le.refl _ _ _ _, htg0⟩
  have hrun : (execOp a.eval ⟨dst, .call ⟨.value (.func f), xs.toArray, ats⟩, t, p, e, none⟩).run P w = .ok (.enter f (xs.map a.eval).toArray) w := by
    obtain ⟨⟨fn, hf, hn, hb⟩, _⟩ := hF
    have hn' : fn.name ≠ "runtime.NumGoroutine" := by simpa using hn
    have hb' : fn.body ≠ none := fun h => by rw [h] at hb; cases hb
    simp [execOp, resolve, Act.eval, Deferred.ofValue, invoke, callFunc, hf, hn', hb']
  refine wp_in_enter hrun (hcall.mono fun en w' ⟨r, M', he, wf', z', leZ, hor⟩ => ?_)
  -- what holds in either case
  have key : Le (· ∈ S) (· ∈ K) w (foldZ M) w' M' ∧ ∀ x ∈ sets, x.2.den w' M' x.1 := by
    rcases hor with ⟨h1, h2, h3⟩ | ⟨h1, h2, h3⟩
    · exact ⟨h2, hend h1 _ _ h3⟩
    · exact ⟨h2, hendx h1 _ _ h3⟩
  obtain ⟨kl, ks⟩ := key
  have kept : ∀ b u, M b = some u → Zt ≤ u → backZ w M M' b = some u := fun b u h hu => by unfold backZ; rw [h]; simp [wf.lt b u h, hu]
  have other : ∀ b, (∀ u, M b = some u → u < Zt) → backZ w M M' b = foldZ M' b := fun b h => by
    unfold backZ
    cases hm : M b with
    | none => rfl
    | some u => have := h u hm; simp only; rw [if_neg (by omega)]
  have high : ∀ b u, M b = some u → Zt ≤ u → M' b = some 0 ∧ w'.heap[b]? = w.heap[b]? := fun b u h hu => by
    obtain ⟨a1, c1⟩ := kl.own b 0 (foldZ_ge h hu) (fun h => by have := (hK1 0 h).1; omega)
    exact ⟨a1, c1 (fun h => by have := hS1 0 h; omega)⟩
  have wf2 : Wf w' (backZ w M M') := by
    refine ⟨fun b u h => ?_, fun b b' u ht1 h h' => ?_, wf.amb.of fun b hb hm => ?_⟩
    · unfold backZ at h
      split at h
      · split at h
        · rename_i hc; exact Nat.lt_of_lt_of_le hc.1 kl.size
        · exact (foldZ_wf wf').lt b u h
      · exact (foldZ_wf wf').lt b u h
    · have part : ∀ b, backZ w M M' b = some (u + 1) → foldZ M' b = some (u + 1) := fun b h => by
        unfold backZ at h
        split at h
        · split at h
          · injection h with h
            rename_i v hc hcc
            subst h
            exact absurd hcc.2 (by have : Zt = 1000000 := rfl; omega)
          · exact h
        · exact h
      exact (foldZ_wf wf').inj b b' u ht1 (part b h) (part b' h')
    · obtain ⟨a1, c1⟩ := kl.pub b hb (foldZ_none hm)
      exact ⟨by rw [other b (fun u hu => by rw [hm] at hu; cases hu)]; exact foldZ_none a1, c1⟩
  have le2 : Le (· ∈ S) (· ∈ K) w M w' (backZ w M M') := by
    refine ⟨kl.size, kl.os, kl.tape, kl.out, fun b hb hm => ?_, fun b u hm hk => ?_⟩
    · obtain ⟨a1, c1⟩ := kl.pub b hb (foldZ_none hm)
      exact ⟨by rw [other b (fun u hu => by rw [hm] at hu; cases hu)]; exact foldZ_none a1, c1⟩
    · rcases Nat.lt_or_ge u Zt with hu | hu
      · obtain ⟨a1, c1⟩ := kl.own b u (foldZ_lt hm hu) hk
        exact ⟨by rw [other b (fun v hv => by rw [hm] at hv; injection hv with hv; omega)]; exact foldZ_lt a1 hu, c1⟩
      · exact ⟨kept b u hm hu, fun _ => (high b u hm hu).2⟩
  refine ⟨r, he, r, rfl, _, wf2, le2, trivial, fun x hx => ?_⟩
  obtain ⟨⟨e1, e2⟩, e3, e4⟩ := tagsOk_spec hts x hx
  refine x.2.mono (w := w') (M := M') (S := fun _ => False) (K := fun u => Zt ≤ u ∨ u = 0) ⟨Nat.le_refl _, rfl, rfl, rfl, fun b hb hm => ⟨?_, rfl⟩, fun b u hm hk => ⟨?_, fun _ => rfl⟩⟩ (fun u hu hz => by have := e3 u hu; omega) (fun _ _ h => h) (fun h => h) (by omega) (ks x hx)
  · rcases hmb : M b with _ | v
    · rw [other b (fun u hu => by rw [hmb] at hu; cases hu)]; exact foldZ_none hm
    · rcases Nat.lt_or_ge v Zt with hv | hv
      · rw [other b (fun u hu => by rw [hmb] at hu; injection hu with hu; omega)]; exact foldZ_none hm
      · have := (high b v hmb hv).1; rw [this] at hm; cases hm
  · have hu : u < Zt := Nat.lt_of_not_le fun h => hk (.inl h)
    rcases hmb : M b with _ | v
    · rw [other b (fun u hu => by rw [hmb] at hu; cases hu)]; exact foldZ_lt hm hu
    · rcases Nat.lt_or_ge v Zt with hv | hv
      · rw [other b (fun u hu => by rw [hmb] at hu; injection hu with hu; omega)]; exact foldZ_lt hm hu
      · have := (high b v hmb hv).1
        rw [this] at hm
        injection hm with hm
        exact absurd (.inr hm.symm) hk
theorem r_op {o : Oper} {f : Fx} (h' : OpT P fr ops o A f) (h : TOps P fr ops rest (A.after f) fun A' l' => K' A' ((A, f) :: l')) : TOps P fr ops (o :: rest) A K' := ⟨f, h', h⟩
end
end Go.T

namespace Go.T
open Go Go.RowKit
section
variable {P : Program} {fr : Fr} {ops : Array Oper} {A : As} {rest : List Oper} {K : As → List (As × Fx) → Prop} {d : Nat} {t ty' : TypeId} {p : String} {e : Array Edge} {x y : Operand} {ti te ts : TI} {el tg : Nat} [T : Tab P]
theorem r_convRS {src : TypeId} {a : Byt} (hx : A.op fr x = .row UB el tg a) (hS : T.tab[src]? = some ts) (hks : ts.k = .slice el) (hT : T.tab[ty']? = some ti) (hk : ti.k = .string) (hu : P.underlying el = some (.int .u8))
    (h : TOps P fr ops rest (A.set d (.str (bs a))) fun A' l' => K A' ((A, { d := some d, ty := .str (bs a), rs := opR x }) :: l')) : TOps P fr ops (⟨some d, .convert src ty' x, t, p, e, none⟩ :: rest) A K :=
  tops_pure (opT_pure rfl rfl fun ac w M wf hr _ => by
    have hdx := op_den (x := x) (fun _ h => h) hr
    rw [hx] at hdx
    obtain ⟨_, D, _, hD, hkd, _⟩ := tab_info hS
    rw [hks] at hkd
    cases D <;> simp only [TK.of, reduceCtorEq, TK.slice.injEq] at hkd
    subst hkd
    obtain ⟨cs, hown, hd, hM⟩ := hdx
    rcases hown.2 with ⟨ex, h0⟩ | ⟨g, cap, cur, ex, _, hh, hn, hm, hsz, htk⟩
    · have ha : a = [] := List.length_eq_zero_iff.1 h0
      subst ha
      refine ⟨.string (bs []), ?_, rfl⟩
      simp only [execOp, ex, Sem.run_bind, run_convert_bytes_string w src ty' _ none 0 0 hD hu (tab_string hT hk)]
      rfl
    · have hrun := run_convert_bytes_back (P := P) w src ty' _ ⟨g, 0, none⟩ cap a hD hu (tab_string hT hk) (fun j hj => by
        rw [Addr.add_lit]
        have hj2 : j < a.length := hj
        obtain ⟨u, hu, hdu⟩ := dens_get hd (j * 1 + 0) _ (flat_elem UB a hj2 0 (Ty.int .u8 ((nth a j).toNat : Int)) rfl)
        have hu2 : u = .int .u8 ((nth a j).toNat : Int) := hdu
        subst hu2
        rw [← htk, List.getElem?_take] at hu
        split at hu
        · rw [Nat.mul_one, Nat.add_zero] at hu
          rw [nth_lt hj2] at hu
          simpa [World.cell?, hh] using hu
        · cases hu)
      exact ⟨.string (bs a), by simp only [execOp, ex, Sem.run_bind, hrun]; rfl, rfl⟩) h
theorem r_loadFact {D off Tb : Nat} {l tys : List Ty} {vs : List Value} {v : Value} {ty : Ty} {h1 : depsOf tys = []} {h2 : cdepsOf tys = []} (tg : Nat) (hx : A.op fr x = .ptr D off) (hc : A.tag D = some (.cells Tb l)) (hD : Tag1 D) (hT : T.tab[ty']? = some ti) (ha : ti.k.agg = false) (hl : l[off]? = some (.ex v)) (hv : A.tag tg = some (Cont.fact tys vs h1 h2)) (hvs : vs[off]? = some v) (hty : tys[off]? = some ty)
    (h : TOps P fr ops rest (A.set d ty) fun A' l => K A' ((A, { d := some d, ty := ty, rs := opR x, rt := [D, tg] }) :: l)) : TOps P fr ops (⟨some d, .load ty' x, t, p, e, none⟩ :: rest) A K :=
  tops_pure (opT_pure rfl rfl fun a w M wf hr ht => by
    have := op_den (x := x) (fun _ h => h) hr
    rw [hx] at this
    obtain ⟨b, hb, e⟩ := this
    obtain ⟨u, hu, hd⟩ := own_cell wf hD hb (ht _ (tag_mem hc) (by simp)) hl
    have hd : u = v := hd
    subst hd
    have hf : dens w M tys vs := ht _ (tag_mem hv) (by simp)
    obtain ⟨u2, hu2, hd2⟩ := dens_get hf off ty hty
    rw [hvs] at hu2
    injection hu2 with hu2
    subst hu2
    exact ⟨u, by simp [execOp, e, run_load1 hT ha hu], hd2⟩) h
theorem r_loadFactN {D Tb : Nat} {tys : List Ty} {vs : List Value} {h1 : depsOf tys = []} {h2 : cdepsOf tys = []} (tg : Nat) (hx : A.op fr x = .ptr D 0) (hc : A.tag D = some (.cells Tb (vs.map Ty.ex))) (hD : Tag1 D) (hT : T.tab[ty']? = some ti) (ha : ti.k.agg = true) (hl : vs.length = ti.size) (hv : A.tag tg = some (Cont.fact tys vs h1 h2))
    (h : TOps P fr ops rest (A.set d (.agg tys)) fun A' l => K A' ((A, { d := some d, ty := .agg tys, rs := opR x, rt := [D, tg] }) :: l)) : TOps P fr ops (⟨some d, .load ty' x, t, p, e, none⟩ :: rest) A K :=
  tops_pure (opT_pure rfl rfl fun a w M wf hr ht => by
    have := op_den (x := x) (fun _ h => h) hr
    rw [hx] at this
    obtain ⟨b, hb, e⟩ := this
    obtain ⟨b', cs, hb', hh, hd⟩ := ht _ (tag_mem hc) (by simp)
    obtain ⟨u, rfl⟩ : ∃ u, D = u + 1 := ⟨D - 1, by have := hD.1; omega⟩
    have := wf.inj b b' u hD.2 hb hb'
    subst this
    have hcs := dens_ex_eq hd
    have hf : dens w M tys vs := ht _ (tag_mem hv) (by simp)
    have hload := run_loadN (P := P) hT ha (w := w) (b := b) (off := 0) (cs := vs) hl fun j v hj => by
      rw [← hcs] at hj
      simpa [World.cell?, hh] using hj
    exact ⟨.agg vs.toArray, by simp [execOp, e, hload], _, rfl, by simpa using hf⟩) h
omit T in
theorem r_box_own1 {ty : Ty} (hx : A.op fr x = ty) (h1 : ty.one = true) (hp : fr.pass.contains (d + 1) = false) (hdp : disj ty.deps [d + 1] = true)
    (h : TOps P fr ops rest (A.after { d := some d, ty := .ptr (d + 1) 0, K := [d + 1], sets := [(d + 1, .cells ty' [ty])], rs := opR x }) fun A' l' => K A' ((A, { d := some d, ty := .ptr (d + 1) 0, K := [d + 1], sets := [(d + 1, .cells ty' [ty])], rs := opR x }) :: l')) :
    TOps P fr ops (⟨some d, .box ty' x, t, p, e, none⟩ :: rest) A K := by
  refine ⟨_, opT_mem rfl rfl (by simp) (by simp) (by simp at hp ⊢; exact hp) fun a w M wf hr _ => ?_, h⟩
  have hd := op_den (x := x) (fun _ h => h) hr
  rw [hx] at hd
  have hone := ty.isOne h1 hd
  have hcells : (a.eval x).cells = #[a.eval x] := by
    cases hv : a.eval x <;> first | rfl | (rw [hv] at hone; simp [Value.oneCell'] at hone)
  obtain ⟨h1, h2, h3⟩ := le_alloc wf (.cells #[a.eval x] ty') (d + 1)
  refine ⟨.pointer (some ⟨w.heap.size, 0, none⟩), w.alloc (.cells #[a.eval x] ty'), ?_, _, h1, h2, ⟨_, h3, rfl⟩, ?_⟩
  · simp [execOp, Instr.box, newVar, newRow, newObj, Sem.run, hcells]
  · intro x hx
    simp only [List.mem_singleton] at hx
    subst hx
    exact ⟨w.heap.size, #[a.eval _], h3, alloc_new _ _, ty.mono h2 (disj_spec hdp) (by intro _ _ h; cases h) hd, trivial⟩
end
section
variable {P : Program} {fr : Fr} {A : As} {Q : Exit → Act → World → Prop} {c : Code}
theorem t_factTo (tg' : Nat) {tg : Nat} {tys tys' : List Ty} {vs : List Value} {h1 : depsOf tys = []} {h2 : cdepsOf tys = []} (h3 : depsOf tys' = []) (h4 : cdepsOf tys' = []) (hf : A.tag tg = some (Cont.fact tys vs h1 h2)) (hs : ∀ w M, dens w M tys vs → dens w M tys' vs)
    (h : Tri P fr c ⟨A.slots, (tg', Cont.fact tys' vs h3 h4) :: A.tags⟩ Q) : Tri P fr c A Q := by
  intro a w ⟨M, ok, hsl, htg⟩
  refine h a w ⟨M, ok, hsl, fun x hx => ?_⟩
  rcases List.mem_cons.1 hx with rfl | hx
  · have : dens w M tys vs := htg _ (tag_mem hf)
    exact hs _ _ this
  · exact htg x hx
end
end Go.T

namespace Go.Proofs.YtjjndkenddigiaaGreatDoor
open Go Go.T
set_option maxHeartbeats 2000000
def finC (text : Byt) (fv : Value) : List Ty := [Ty.pp [Ty.str (bs text), Ty.ex fv]]
structure FIx (f : BForm) (text : Byt) (L0 : List (Byt × Rdr)) where
  s : Byt
  p : Rdr
  ok : RdrOk f p
  le : s.length ≤ text.length
  same : filS f p s (text.drop s.length) = L0
theorem cv_rdr {ρ : List (Nat × Nat)} {f : BForm} {p : Rdr} {a b : Nat} (h : (a, b) ∈ ρ) : Conv ρ (Ty.agg (rdrT f p a)) (Ty.agg (rdrT f p b)) :=
  cv_agg (cv_cons (cv_cons (cv_cons (cv_cons (cv_cons (cv_cons (cv_cons (cv_cons (cv_cons (cv_cons (cv_cons (cv_cons cv_nil (cv_pub rfl rfl)) (cv_row h)) (cv_pub rfl rfl)) (cv_pub rfl rfl)) (cv_pub rfl rfl)) (cv_pub rfl rfl)) (cv_pub rfl rfl)) (cv_pub rfl rfl)) (cv_pub rfl rfl)) (cv_pub rfl rfl)) (cv_pub rfl rfl)) (cv_pub rfl rfl))
theorem cc_rdrP {ρ : List (Nat × Nat)} {a b T : Nat} {f : BForm} {p : Rdr} {l : List Ty} (h : (a, b) ∈ ρ) (e : l = rdrPl f p) : ConvC ρ a (.cells T l) b (.cells T (rdrPl f p)) := by
  subst e
  exact cc_cells_eq h rfl rfl rfl
theorem fi_end {f : BForm} {text : Byt} {L0 : List (Byt × Rdr)} (x : FIx f text L0) (h : ¬ (x.s.length : Int) < (text.length : Int)) : L0 = if wholeR x.p = true then [(x.s, x.p)] else [] := by
  have e : text.drop x.s.length = [] := List.drop_of_length_le (by omega)
  have := x.same
  rw [e, fil_nil] at this
  exact this.symm
theorem fi_stop {f : BForm} {text : Byt} {L0 : List (Byt × Rdr)} (x : FIx f text L0) (h : x.s.length < text.length) (h2 : ¬ ((nth text x.s.length).toNat : Int) = 63) (h3 : ¬ nth text x.s.length ∈ canR f x.p) : L0 = [] := by
  rw [← x.same, drop_cons' h]
  exact fil_stop (fun e => h2 (by rw [e]; rfl)) h3
def FIx.next {f : BForm} {text : Byt} {L0 : List (Byt × Rdr)} (x : FIx f text L0) (h : x.s.length < text.length) (h2 : ¬ ((nth text x.s.length).toNat : Int) = 63) (h3 : nth text x.s.length ∈ canR f x.p) : FIx f text L0 :=
  ⟨x.s ++ [nth text x.s.length], nextR f x.p (nth text x.s.length), next_ok x.ok h3, by simp; omega, by
    have h0 := x.same
    rw [drop_cons' h, fil_step (fun e => h2 (by rw [e]; rfl)) h3] at h0
    simpa using h0⟩
theorem fi_torn {f : BForm} {text : Byt} {L0 : List (Byt × Rdr)} (x : FIx f text L0) (h : x.s.length < text.length) (h2 : ((nth text x.s.length).toNat : Int) = 63) : filS f x.p x.s (63 :: text.drop (x.s.length + 1)) = L0 := by
  have e : nth text x.s.length = 63 := UInt8.toNat_inj.1 (by show _ = 63; omega)
  have h0 := x.same
  rw [drop_cons' h, e] at h0
  exact h0
theorem fi_sub {f : BForm} {text : Byt} {L0 AL : List (Byt × Rdr)} {m0 : Nat} (x : FIx f text L0) (h : x.s.length < text.length) (h2 : ((nth text x.s.length).toNat : Int) = 63) (hp : L0 <+: AL.drop m0) {k : Nat} (hk : k < (canR f x.p).length) :
    filS f (nextR f x.p (nth (canR f x.p) k)) (x.s ++ [nth (canR f x.p) k]) (text.drop (x.s ++ [nth (canR f x.p) k]).length) <+: AL.drop (m0 + (upF f x.p x.s (text.drop (x.s.length + 1)) k).length) := by
  have h1 := up_pre (f := f) (p := x.p) (s := x.s) (t := text.drop (x.s.length + 1)) hk
  rw [fi_torn x h h2] at h1
  have := pre_drop (List.IsPrefix.trans h1 hp)
  simpa using this
theorem fi_up {f : BForm} {text : Byt} {L0 : List (Byt × Rdr)} {m0 : Nat} (x : FIx f text L0) {k : Nat} (hk : k < (canR f x.p).length) :
    m0 + (upF f x.p x.s (text.drop (x.s.length + 1)) k).length + (filS f (nextR f x.p (nth (canR f x.p) k)) (x.s ++ [nth (canR f x.p) k]) (text.drop (x.s ++ [nth (canR f x.p) k]).length)).length = m0 + (upF f x.p x.s (text.drop (x.s.length + 1)) (k + 1)).length := by
  rw [up_succ hk, List.length_append]; simp; omega
theorem plain_UB : ∀ x : UInt8, ∀ t ∈ UB.tys x, t.Plain := fun x t ht => by
  rw [show t = Ty.int .u8 (x.toNat : Int) from List.mem_singleton.1 ht]; exact plain_int _ _
attribute [local irreducible] figC canR numF digF' pushN letB lineB figR nextR stepQ sumL wholeR filS upF fillR
attribute [local irreducible] dInt dBool dSl dPp dPtr dAgg dTup dClo dAny dEx dStr dGd dCells dVec dVs dRow dOp nth Tri Into TOps Ctr bodyPost Exit.then Exit.inBlock Code.wp Code.wpIn dPa dArr dMp dMap CtrG keepPost iterPost bodyPostM roundQ
set_option maxRecDepth 100000 in
theorem k_Clone_rows (l : List BRow) (h : l.length ≤ 1000) : CtrG Tryz.prog 129 [] [] [Ty.sl BRowE l] [] (Ty.row BRowE 66 6 l) := by
  refine fnG_intro Tryz.func129 rfl (by decide) Tryz.ntmps129 (by exact Nat.le_of_ble_eq_true rfl) fun w0 M0 => ?_
  refine t_seq ?_
  refine t_region ?_
  refine asX rfl ?_
  refine r_nil ?_
  refine i_then ?_
  refine t_seq ?_
  refine t_seq ?_
  refine t_region ?_
  refine mvS rfl ?_
  refine r_eqnil und25 rfl ?_
  refine r_nil ?_
  refine i_then ?_
  refine t_cond_nb rfl (fun hc1 => ?_) (fun hc1 => ?_)
  ·
    refine t_seq ?_
    refine t_region ?_
    refine asX rfl ?_
    refine r_nil ?_
    refine i_then ?_
    refine t_ret ?_
    refine i_then_ret ?_
    refine g_ret1 [6] rfl rfl (by decide) (by repeat (exact rc_nil)) ?_
    all_goals skip
    all_goals (obtain rfl : l = [] := hc1; exact rg_cv cv_nilrow)
  ·
    refine t_skip ?_
    refine i_then ?_
    refine t_seq ?_
    refine t_region ?_
    refine r_buildRow (E := BRowE) rfl rfl rfl rfl ?_
    refine mvS rfl ?_
    refine r_append rfl rfl (by decide) rfl rfl rfl rfl rfl rfl (by decide) (by (simp <;> omega)) (by (simp <;> omega)) ?_
    refine asR rfl ?_
    refine r_nil ?_
    refine i_then ?_
    refine t_ret ?_
    refine g_ret1 [6] rfl rfl (by decide) (by repeat (exact rc_nil)) ?_
    all_goals skip
    all_goals exact rg_cv (cv_row (by decide))
set_option maxRecDepth 100000 in
theorem k_Clone_u8 (l : Byt) (h : l.length ≤ 65536) : CtrG Tryz.prog 130 [] [] [Ty.sl UB l] [] (Ty.row UB 5 6 l) := by
  refine fnG_intro Tryz.func130 rfl (by decide) Tryz.ntmps130 (by exact Nat.le_of_ble_eq_true rfl) fun w0 M0 => ?_
  refine t_seq ?_
  refine t_region ?_
  refine asX rfl ?_
  refine r_nil ?_
  refine i_then ?_
  refine t_seq ?_
  refine t_seq ?_
  refine t_region ?_
  refine mvS rfl ?_
  refine r_eqnil und81 rfl ?_
  refine r_nil ?_
  refine i_then ?_
  refine t_cond_nb rfl (fun hc1 => ?_) (fun hc1 => ?_)
  ·
    refine t_seq ?_
    refine t_region ?_
    refine asX rfl ?_
    refine r_nil ?_
    refine i_then ?_
    refine t_ret ?_
    refine i_then_ret ?_
    refine g_ret1 [6] rfl rfl (by decide) (by repeat (exact rc_nil)) ?_
    all_goals skip
    all_goals (obtain rfl : l = [] := hc1; exact rg_cv cv_nilrow)
  ·
    refine t_skip ?_
    refine i_then ?_
    refine t_seq ?_
    refine t_region ?_
    refine r_buildRow (E := UB) rfl rfl rfl rfl ?_
    refine mvS rfl ?_
    refine r_append rfl rfl (by decide) rfl rfl rfl rfl rfl rfl (by decide) (by (simp <;> omega)) (by (simp <;> omega)) ?_
    refine asR rfl ?_
    refine r_nil ?_
    refine i_then ?_
    refine t_ret ?_
    refine g_ret1 [6] rfl rfl (by decide) (by repeat (exact rc_nil)) ?_
    all_goals skip
    all_goals exact rg_cv (cv_row (by decide))
set_option maxRecDepth 100000 in
theorem k_canP (f : BForm) (p : Rdr) : CtrG Tryz.prog 128 [1000] [(1000, Cont.cells 177 (rdrPl f p))] [Ty.ptr 1000 0] [(1000, Cont.cells 177 (rdrPl f p))] (Ty.clo 151 [Ty.pp [Ty.ptr 1000 0]]) := by
  refine fnG_intro Tryz.func128 rfl (by decide) Tryz.ntmps128 (by exact Nat.le_of_ble_eq_true rfl) fun w0 M0 => ?_
  refine t_seq ?_
  refine t_region ?_
  refine r_box_one (ty := Ty.ptr 1000 0) rfl rfl ?_
  refine asX rfl ?_
  refine r_nil ?_
  refine i_then ?_
  refine t_seq ?_
  refine t_region ?_
  refine r_makeFunc rfl ?_
  refine asF rfl ?_
  refine r_nil ?_
  refine i_then ?_
  refine t_ret ?_
  refine g_ret1 [1000] rfl rfl (by decide) ?_ ?_
  exact rc_cons rfl (cc_rdrP (by decide) rfl) rc_nil
  all_goals skip
  all_goals exact rg_cv (cv_clo (cv_cons cv_nil (cv_pp (cv_cons cv_nil (cv_ptr (by decide))))))
set_option maxRecDepth 100000 in
theorem c_wholeP (f : BForm) (p : Rdr) : Ctr Tryz.prog 121 [Ty.pp (rdrPl f p)] (Ty.bool (wholeR p)) := by
  refine fn_intro Tryz.func121 rfl (by decide) Tryz.ntmps121 (by exact Nat.le_of_ble_eq_true rfl) fun w0 M0 => ?_
  refine t_seq ?_
  refine t_region ?_
  refine asB rfl ?_
  refine r_nil ?_
  refine i_then ?_
  refine t_seq ?_
  refine t_region ?_
  refine mvP rfl ?_
  refine r_nilCheck_pp rfl ?_
  refine r_field_pp rfl rfl rfl rfl rfl (by decide) ?_
  refine r_field_pp rfl rfl rfl rfl rfl (by decide) ?_
  refine r_load_pp rfl rfl rfl rfl ?_
  refine mvB rfl ?_
  apply r_guard (s := 8) rfl rfl rfl
  · intro hg; apply opT_of; (refine mvP rfl ?_); refine r_nil ?_; exact rfl
  · exact rfl
  · exact rfl
  apply r_guard (s := 8) rfl rfl rfl
  · intro hg; apply opT_strip (s := 9) rfl (by (rw [hg]; rfl)); apply opT_of; (refine r_nilCheck_pp rfl ?_); refine r_nil ?_; exact rfl
  · exact rfl
  · exact rfl
  apply r_guard (s := 8) rfl rfl rfl
  · intro hg; apply opT_strip (s := 10) rfl (by (rw [hg]; rfl)); apply opT_of; (refine r_field_pp rfl rfl rfl rfl rfl (by decide) ?_); refine r_nil ?_; exact rfl
  · exact rfl
  · exact rfl
  apply r_guard (s := 8) rfl rfl rfl
  · intro hg; apply opT_strip (s := 11) rfl (by (rw [hg]; rfl)); apply opT_of; (refine r_load_pp rfl rfl rfl rfl ?_); refine r_nil ?_; exact rfl
  · exact rfl
  · exact rfl
  apply r_guard (s := 8) rfl rfl rfl
  · intro hg; apply opT_strip (s := 12) rfl (by (rw [hg]; rfl)); apply opT_of; (refine r_eqlS rfl rfl ?_); refine r_nil ?_; exact rfl
  · exact rfl
  · exact rfl
  refine r_and rfl rfl ?_
  refine asB rfl ?_
  refine r_nil ?_
  refine i_then ?_
  refine t_ret ?_
  refine i_rp1 rfl rfl ?_
  all_goals skip
  all_goals exact ret_eq rfl rfl (congrArg Ty.bool (whole_eq p))
set_option maxRecDepth 100000 in
theorem c_fillS (f : BForm) (text : Byt) (hl : text.length ≤ 65536) (AL : List (Byt × Rdr)) (fv : Value) (J : Nat → World → Tags → Prop) (Jx : World → Tags → Prop) (hJ : ∀ k, Cb (J k)) (hJx : Cb Jx) (hF : FndC Tryz.prog fv (AL.map (encF f)) J Jx) (s : Byt) (p : Rdr) (m0 : Nat) (ho : RdrOk f p) (hs : s.length ≤ text.length) (hp : filS f p s (text.drop s.length) <+: AL.drop m0) (ih : ∀ (s' : Byt) (p' : Rdr) (k' : Nat), text.length - s'.length < text.length - s.length → s'.length ≤ text.length → RdrOk f p' → filS f p' s' (text.drop s'.length) <+: AL.drop k' → MoreF Tryz.prog 127 173 (finC text fv) [Ty.row UB 5 1002 s', Ty.agg (rdrT f p' 1003)] (J k') (J (k' + (filS f p' s' (text.drop s'.length)).length)) Jx) : MoreF Tryz.prog 127 173 (finC text fv) [Ty.row UB 5 1002 s, Ty.agg (rdrT f p 1003)] (J (m0)) (J (m0 + (filS f p s (text.drop s.length)).length)) Jx := by
  refine moreF_intro (hJ (m0)) Tryz.func127 rfl (by decide) Tryz.ntmps127 (by exact Nat.le_of_ble_eq_true rfl) rfl rfl fun w0 Mc g own cs0 wf0 z0 how0 hg0 hh0 => ?_
  refine t_seq ?_
  refine t_region ?_
  refine r_box_own1 (ty := Ty.row UB 5 1002 s) rfl rfl rfl rfl ?_
  refine r_box_own rfl rfl rfl ?_
  refine r_alloc rfl (by exact List.cons_ne_nil _ _) rfl ?_
  refine r_nil ?_
  refine i_then ?_
  refine t_seq ?_
  refine t_seq ?_
  refine t_region ?_
  refine r_load_ptr rfl rfl (by decide) rfl rfl rfl ?_
  refine r_len_row rfl rfl rfl ?_
  refine asI rfl ?_
  refine r_nil ?_
  refine i_then ?_
  refine t_block ?_
  refine t_loop (fun (x : {x : FIx f text (filS f p s (text.drop s.length)) // s.length ≤ x.s.length}) => live [(2, Ty.pp [Ty.str (bs text), Ty.ex fv]), (3, Ty.ptr 1000 0), (4, Ty.ptr 5 0), (5, Ty.ptr 6 0), (6, Ty.ptr 7 0), (7, Ty.int .i64 (x.1.s.length : Nat))] [(5, Cont.cells 81 [Ty.row UB 5 1002 x.1.s]), (6, Cont.cells 177 (rdrT f x.1.p 1003)), (7, Cont.cells 4 [Ty.bool false]), (7000, Cont.ck (hJ m0)), (1000, Cont.cells 173 [Ty.ex (.func (.func 127) #[] (cs0 ++ [gp g]).toArray)]), (1001, Cont.me g 173 (.func (.func 127) #[] (cs0 ++ [gp g]).toArray) (finC text fv) cs0 rfl rfl), (5000, Cont.snap w0 (oldF Mc g own))]) (fun x => text.length - x.1.s.length) (⟨⟨s, p, ho, hs, rfl⟩, Nat.le_refl _⟩) ?_ fun x => ?_
  · (refine Ent.mk' ?_ ?_ <;> (repeat' (first | exact allSub_zero | exact allTags_nil | refine allSub_succ' ?_ (Ty.sub_any _) | refine allSub_succ' ?_ (Ty.sub_refl _) | refine allTags_cons rfl (Cont.sub_refl _) ?_)))
    all_goals trace_state
  ·
    have hxl := x.1.le
    have hxs := x.2
    have hlp := x.1.ok.len
    refine t_seq ?_
    refine t_seq ?_
    refine t_region ?_
    refine mvI rfl ?_
    refine r_field_pp rfl rfl rfl rfl rfl (by decide) ?_
    refine r_load_pp rfl rfl rfl rfl ?_
    refine r_lenS rfl rfl rfl ?_
    refine r_bin rfl rfl rfl ?_
    refine r_nil ?_
    refine i_then ?_
    refine t_cond_dec rfl (fun hc1 => ?_) (fun hc1 => ?_)
    ·
      refine t_skip ?_
      refine i_then ?_
      refine t_seq ?_
      refine t_block ?_
      refine t_seq ?_
      have hlt : x.1.s.length < text.length := by omega
      refine t_region ?_
      refine r_field_pp rfl rfl rfl rfl rfl (by decide) ?_
      refine r_load_pp rfl rfl rfl rfl ?_
      refine mvI rfl ?_
      refine r_idxS (i := x.1.s.length) rfl rfl rfl rfl hlt ?_
      refine asI rfl ?_
      refine r_nil ?_
      refine i_then ?_
      refine t_seq ?_
      refine t_seq ?_
      refine t_region ?_
      refine mvI rfl ?_
      refine r_bin rfl rfl rfl ?_
      refine r_nil ?_
      refine i_then ?_
      refine t_cond_ndec rfl (fun hc2 => ?_) (fun hc2 => ?_)
      ·
        refine t_seq ?_
        refine t_seq ?_
        refine t_region ?_
        refine mvI rfl ?_
        refine r_callG [(6, 1000), (1003, 1001)] [1003] [(6, Cont.cells 177 (rdrT f (stepQ f x.1.p (nth text x.1.s.length)) 1003))] (k_step f _ x.1.ok (nth text x.1.s.length)) rfl rfl (by repeat (first | exact cv_nil | refine cv_cons ?_ ?_ | exact cv_ptr List.mem_cons_self | exact cv_pub rfl rfl)) (pre_cons (a := 6) (b := 1000) (by exact List.mem_cons_self) rfl (cc_rdr (by exact List.mem_cons_self) (List.mem_cons_of_mem _ List.mem_cons_self) rfl) pre_nil) (post_cons (a := 6) (b := 1000) (by exact List.mem_cons_self) rfl (cc_rdr (by exact List.mem_cons_self) (List.mem_cons_of_mem _ List.mem_cons_self) rfl) post_nil) (cv_pub rfl rfl) ?_
        refine r_not rfl ?_
        refine r_nil ?_
        refine i_then ?_
        refine t_cond_ndec rfl (fun hc3 => ?_) (fun hc3 => ?_)
        ·
          refine t_seq ?_
          refine t_region ?_
          refine r_store1 rfl rfl (by decide) rfl rfl (by exact (rfl : _ = Ty.bool _)) rfl (by exact Nat.le_of_ble_eq_true rfl) rfl rfl (by exact (rfl : _ = [_])) ?_
          refine r_nil ?_
          refine i_then ?_
          refine t_ret ?_
          refine i_then_ret ?_
          refine i_then_ret ?_
          refine i_block_ret ?_
          refine i_then_ret ?_
          refine i_then_ret ?_
          refine i_block_ret ?_
          refine i_then_ret ?_
          refine m_ret rfl ?_
          exact i_retFt (hj := hJ _) z0 wf0 (congrArg J (by rw [fi_stop x.1 hlt hc2 hc3]; rfl)) hh0 rfl rfl rfl rfl (by decide) rfl rfl rfl rfl rfl
        ·
          refine t_skip ?_
          refine i_then ?_
          refine t_seq ?_
          refine t_asC (tg := 6) (D := Cont.cells 177 (rdrT f (nextR f x.1.p (nth text x.1.s.length)) 1003)) rfl (by rw [stepQ_yes hc3]; exact Cont.sub_refl _) ?_
          refine t_region ?_
          refine r_load_ptr rfl rfl (by decide) rfl rfl rfl ?_
          refine mvI rfl ?_
          refine r_buildSlice (E := UB) (xs := [_]) rfl rfl rfl rfl rfl (by decide) (by decide) (by repeat (first | exact (Parts.nil : Parts _ _ [] _) | (show Parts _ _ ((_, _) :: _) _; apply Parts.one; (· exact (rfl : _ = Ty.int _ _)); (· exact rfl)))) (by exact rfl) rfl ?_
          refine r_append rfl rfl (by decide) rfl rfl rfl rfl rfl rfl (by decide) (by (simp <;> omega)) (by (simp <;> omega)) ?_
          refine r_store1 rfl rfl (by decide) rfl rfl (by exact (rfl : _ = Ty.row _ _ _ _)) rfl (by exact Nat.le_of_ble_eq_true rfl) rfl rfl (by exact (rfl : _ = [_])) ?_
          refine r_nil ?_
          refine i_then ?_
          refine t_exit ?_
          refine i_then_exit ?_
          refine i_block_exit rfl ?_
          refine i_then ?_
          refine t_region ?_
          refine mvI rfl ?_
          refine r_add rfl rfl (by omega) (by omega) ?_
          refine asI rfl ?_
          refine r_nil ?_
          refine i_round (⟨x.1.next hlt hc2 hc3, by show s.length ≤ (x.1.s ++ [_]).length; simp; omega⟩) ?_ (by show text.length - (x.1.s ++ [nth text x.1.s.length]).length < text.length - x.1.s.length; simp; omega)
          (refine Ent.mk' ?_ ?_ <;> (repeat' (first | exact allSub_zero | exact allTags_nil | refine allSub_succ' ?_ (Ty.sub_any _) | refine allSub_succ' ?_ (Ty.sub_refl _) | refine allTags_cons rfl (Cont.sub_refl _) ?_ | refine allSub_succ' ?_ ?_)))
          all_goals skip
          all_goals exact Ty.sub_int (by show ((x.1.s.length : Nat) : Int) + 1 = (((x.1.s ++ [nth text x.1.s.length]).length : Nat) : Int); simp)
      ·
        refine t_skip ?_
        refine i_then ?_
        refine t_seq ?_
        refine t_seq ?_
        refine t_pubC (tg := 1003) [] [(6, Cont.cells 177 (rdrPl f x.1.p))] (by decide) rfl trivial ⟨pubC_cells rfl rfl ⟨pubTy_same rfl, pubTy_same rfl, pubTy_same rfl, pubTy_same rfl, pubTy_same rfl, pubTy_same rfl, pubTy_same rfl, pubTy_same rfl, pubTy_same rfl, pubTy_same rfl, pubTy_row, pubTy_same rfl, trivial⟩, trivial⟩ ?_
        refine t_region ?_
        refine r_callG (res' := Ty.clo 151 [Ty.pp [Ty.ptr 6 0]]) [(6, 1000)] [] [(6, Cont.cells 177 (rdrPl f x.1.p))] (k_canP f x.1.p) rfl rfl (cv_cons cv_nil (cv_ptr (by exact List.mem_cons_self))) (pre_cons (a := 6) (b := 1000) (by exact List.mem_cons_self) rfl (cc_rdrP (by exact List.mem_cons_self) rfl) pre_nil) (post_cons (a := 6) (b := 1000) (by exact List.mem_cons_self) rfl (cc_rdrP (by exact List.mem_cons_self) rfl) post_nil) (cv_clo (cv_cons cv_nil (cv_pp (cv_cons cv_nil (cv_ptr (by exact List.mem_cons_self)))))) ?_
        refine r_nil ?_
        refine i_then ?_
        refine t_name (D := 6) (Tb := 177) (tys := rdrPl f x.1.p) (r := []) rfl rfl rfl (by decide) fun vs hvs => ?_
        obtain ⟨v0, v1, v2, v3, v4, v5, v6, v7, v8, v9, v10, v11, rfl⟩ := twelve hvs rfl
        refine t_factTo 4001 (tg := 4000) (tys := rdrPl f x.1.p) (tys' := rdrPl f x.1.p) (vs := [v0, v1, v2, v3, v4, v5, v6, v7, v8, v9, v10, v11]) rfl rfl rfl (fun _ _ h => h) ?_
        refine t_factTo 4000 (tg := 4001) (tys := rdrPl f x.1.p) (tys' := rdrN f x.1.p v10) (vs := [v0, v1, v2, v3, v4, v5, v6, v7, v8, v9, v10, v11]) rfl rfl rfl (fun _ _ ⟨h0, h1, h2, h3, h4, h5, h6, h7, h8, h9, _, h11⟩ => ⟨h0, h1, h2, h3, h4, h5, h6, h7, h8, h9, (dens_ex [v10]).1, h11⟩) ?_
        refine t_block ?_
        refine t_rangeFuncT (ps := [34]) (lk [(2, Ty.pp [Ty.str (bs text), Ty.ex fv]), (3, Ty.ptr 1000 0), (4, Ty.ptr 5 0), (5, Ty.ptr 6 0), (6, Ty.ptr 7 0)]) (fun k => [(6, Cont.cells 177 [Ty.ex v0, Ty.ex v1, Ty.ex v2, Ty.ex v3, Ty.ex v4, Ty.ex v5, Ty.ex v6, Ty.ex v7, Ty.ex v8, Ty.ex v9, Ty.ex v10, Ty.ex v11]), (4000, Cont.fact (rdrN f x.1.p v10) [v0, v1, v2, v3, v4, v5, v6, v7, v8, v9, v10, v11] rfl rfl), (4001, Cont.fact (rdrPl f x.1.p) [v0, v1, v2, v3, v4, v5, v6, v7, v8, v9, v10, v11] rfl rfl), (5, Cont.cells 81 [Ty.row UB 5 1002 x.1.s]), (7, Cont.cells 4 [Ty.bool false]), (7000, Cont.ck (hJ (m0 + (upF f x.1.p x.1.s (text.drop (x.1.s.length + 1)) k).length))), (1000, Cont.cells 173 [Ty.ex (.func (.func 127) #[] (cs0 ++ [gp g]).toArray)]), (1001, Cont.me g 173 (.func (.func 127) #[] (cs0 ++ [gp g]).toArray) (finC text fv) cs0 rfl rfl), (5000, Cont.snap w0 (oldF Mc g own))]) true [(7, Cont.cells 4 [Ty.bool false]), (7000, Cont.ck hJx), (1001, Cont.me g 173 (.func (.func 127) #[] (cs0 ++ [gp g]).toArray) (finC text fv) cs0 rfl rfl), (5000, Cont.snap w0 (oldF Mc g own))] [7000, 5000, 1000, 1001, 1002, 4000, 4001, 5, 6, 7] rfl rfl ((c_can1 f x.1.p x.1.ok v10 0 6 [v0, v1, v2, v3, v4, v5, v6, v7, v8, v9, v10, v11]).1) (ranges_X (D := 6) (n := 60) (sd := 5) (r := fun k => []) (fun b => c_can1 f x.1.p x.1.ok v10 b 6 [v0, v1, v2, v3, v4, v5, v6, v7, v8, v9, v10, v11]) (by decide) (by decide) rfl (fun k => List.mem_cons_self) (List.mem_cons_of_mem _ List.mem_cons_self)) (deps_lt rfl) (deps_lt rfl) (by decide) (by intro t ht; obtain ⟨y, _, rfl⟩ := List.mem_map.1 ht; exact ⟨rfl, rfl, rfl⟩) rfl rfl (fun _ => rfl) rfl ?_ ?_ ?_ ?_
        · (refine Ent.mk' ?_ ?_ <;> (repeat' (first | exact allSub_zero | exact allTags_nil | refine allSub_succ' ?_ (Ty.sub_any _) | refine allSub_succ' ?_ (Ty.sub_refl _) | refine allTags_cons rfl (Cont.sub_refl _) ?_ | refine allTags_cons rfl ?_ ?_)))
          all_goals exact ck_eq hJ (by rw [up_zero]; rfl)
        · intro k tys hk
          obtain ⟨hk1, rfl⟩ := enc_get hk
          have hmem := nth_mem hk1
          refine ⟨live [(2, Ty.pp [Ty.str (bs text), Ty.ex fv]), (3, Ty.ptr 1000 0), (4, Ty.ptr 5 0), (5, Ty.ptr 6 0), (6, Ty.ptr 7 0), (9, Ty.int .u8 ((nth (canR f x.1.p) k).toNat : Int))] [(6, Cont.cells 177 [Ty.ex v0, Ty.ex v1, Ty.ex v2, Ty.ex v3, Ty.ex v4, Ty.ex v5, Ty.ex v6, Ty.ex v7, Ty.ex v8, Ty.ex v9, Ty.ex v10, Ty.ex v11]), (4000, Cont.fact (rdrN f x.1.p v10) [v0, v1, v2, v3, v4, v5, v6, v7, v8, v9, v10, v11] rfl rfl), (4001, Cont.fact (rdrPl f x.1.p) [v0, v1, v2, v3, v4, v5, v6, v7, v8, v9, v10, v11] rfl rfl), (5, Cont.cells 81 [Ty.row UB 5 1002 x.1.s]), (7, Cont.cells 4 [Ty.bool false]), (7000, Cont.ck (hJ (m0 + (upF f x.1.p x.1.s (text.drop (x.1.s.length + 1)) k).length))), (1000, Cont.cells 173 [Ty.ex (.func (.func 127) #[] (cs0 ++ [gp g]).toArray)]), (1001, Cont.me g 173 (.func (.func 127) #[] (cs0 ++ [gp g]).toArray) (finC text fv) cs0 rfl rfl), (5000, Cont.snap w0 (oldF Mc g own))], fun l w M => ?_, fun l w M => ?_⟩
          ·
            refine t_region ?_
            refine asI rfl ?_
            refine r_nil ?_
            refine i_join ?_
            (refine Ent.mk' ?_ ?_ <;> (repeat' (first | exact allSub_zero | exact allTags_nil | refine allSub_succ' ?_ (Ty.sub_any _) | refine allSub_succ' ?_ (Ty.sub_refl _) | refine allTags_cons rfl (Cont.sub_refl _) ?_)))
          ·
            refine t_block ?_
            refine t_seq ?_
            refine t_region ?_
            refine r_loadFactN (tys := rdrPl f x.1.p) (vs := [v0, v1, v2, v3, v4, v5, v6, v7, v8, v9, v10, v11]) 4001 rfl rfl (by decide) rfl rfl rfl rfl ?_
            refine r_alloc rfl (by exact List.cons_ne_nil _ _) rfl ?_
            refine r_storeN rfl rfl (by decide) rfl rfl rfl rfl rfl rfl ?_
            refine r_nil ?_
            refine i_then ?_
            refine t_seq ?_
            refine t_region ?_
            refine r_field_ptr rfl rfl rfl rfl rfl (by decide) ?_
            refine r_loadFact 4001 rfl rfl (by decide) rfl rfl rfl rfl rfl rfl ?_
            refine r_callG [(39, 6)] [39] [] (k_Clone_rows x.1.p.read (by omega)) rfl rfl (by repeat (first | exact cv_nil | refine cv_cons ?_ ?_ | exact cv_pub rfl rfl)) pre_nil post_nil (cv_row (by exact List.mem_cons_self)) ?_
            refine r_field_ptr rfl rfl rfl rfl rfl (by decide) ?_
            refine r_store1 rfl rfl (by decide) rfl rfl (by exact (rfl : _ = Ty.row _ _ _ _)) rfl (by exact Nat.le_of_ble_eq_true rfl) rfl rfl (by exact rfl) ?_
            refine r_nil ?_
            refine i_then ?_
            refine t_seq ?_
            refine t_forget (B := live [(2, Ty.pp [Ty.str (bs text), Ty.ex fv]), (3, Ty.ptr 1000 0), (4, Ty.ptr 5 0), (5, Ty.ptr 6 0), (6, Ty.ptr 7 0), (9, Ty.int .u8 ((nth (canR f x.1.p) k).toNat : Int)), (10, Ty.ptr 11 0)] [(11, Cont.cells 177 (rdrT f (x.1.p) 39)), (6, Cont.cells 177 [Ty.ex v0, Ty.ex v1, Ty.ex v2, Ty.ex v3, Ty.ex v4, Ty.ex v5, Ty.ex v6, Ty.ex v7, Ty.ex v8, Ty.ex v9, Ty.ex v10, Ty.ex v11]), (4000, Cont.fact (rdrN f x.1.p v10) [v0, v1, v2, v3, v4, v5, v6, v7, v8, v9, v10, v11] rfl rfl), (4001, Cont.fact (rdrPl f x.1.p) [v0, v1, v2, v3, v4, v5, v6, v7, v8, v9, v10, v11] rfl rfl), (5, Cont.cells 81 [Ty.row UB 5 1002 x.1.s]), (7, Cont.cells 4 [Ty.bool false]), (7000, Cont.ck (hJ (m0 + (upF f x.1.p x.1.s (text.drop (x.1.s.length + 1)) k).length))), (1000, Cont.cells 173 [Ty.ex (.func (.func 127) #[] (cs0 ++ [gp g]).toArray)]), (1001, Cont.me g 173 (.func (.func 127) #[] (cs0 ++ [gp g]).toArray) (finC text fv) cs0 rfl rfl), (5000, Cont.snap w0 (oldF Mc g own))]) ?_ ?_
            · (refine Ent.mk' ?_ ?_ <;> (repeat' (first | exact allSub_zero | exact allTags_nil | refine allSub_succ' ?_ (Ty.sub_any _) | refine allSub_succ' ?_ (Ty.sub_refl _) | refine allTags_cons rfl (Cont.sub_refl _) ?_)))
            refine t_region ?_
            refine mvI rfl ?_
            refine r_callG [(11, 1000), (39, 1001)] [39] [(11, Cont.cells 177 (rdrT f (nextR f x.1.p (nth (canR f x.1.p) k)) 39))] (k_step f _ x.1.ok (nth (canR f x.1.p) k)) rfl rfl (by repeat (first | exact cv_nil | refine cv_cons ?_ ?_ | exact cv_ptr List.mem_cons_self | exact cv_pub rfl rfl)) (pre_cons (a := 11) (b := 1000) (by exact List.mem_cons_self) rfl (cc_rdr (by exact List.mem_cons_self) (List.mem_cons_of_mem _ List.mem_cons_self) rfl) pre_nil) (post_cons (a := 11) (b := 1000) (by exact List.mem_cons_self) rfl (cc_rdr (by exact List.mem_cons_self) (List.mem_cons_of_mem _ List.mem_cons_self) (by rw [stepQ_yes hmem])) post_nil) (cv_pub rfl rfl) ?_
            refine r_nil ?_
            refine i_then ?_
            refine t_seq ?_
            refine t_forget (B := live [(2, Ty.pp [Ty.str (bs text), Ty.ex fv]), (3, Ty.ptr 1000 0), (4, Ty.ptr 5 0), (5, Ty.ptr 6 0), (6, Ty.ptr 7 0), (9, Ty.int .u8 ((nth (canR f x.1.p) k).toNat : Int)), (10, Ty.ptr 11 0)] [(11, Cont.cells 177 (rdrT f (nextR f x.1.p (nth (canR f x.1.p) k)) 39)), (6, Cont.cells 177 [Ty.ex v0, Ty.ex v1, Ty.ex v2, Ty.ex v3, Ty.ex v4, Ty.ex v5, Ty.ex v6, Ty.ex v7, Ty.ex v8, Ty.ex v9, Ty.ex v10, Ty.ex v11]), (4000, Cont.fact (rdrN f x.1.p v10) [v0, v1, v2, v3, v4, v5, v6, v7, v8, v9, v10, v11] rfl rfl), (4001, Cont.fact (rdrPl f x.1.p) [v0, v1, v2, v3, v4, v5, v6, v7, v8, v9, v10, v11] rfl rfl), (5, Cont.cells 81 [Ty.row UB 5 1002 x.1.s]), (7, Cont.cells 4 [Ty.bool false]), (7000, Cont.ck (hJ (m0 + (upF f x.1.p x.1.s (text.drop (x.1.s.length + 1)) k).length))), (1000, Cont.cells 173 [Ty.ex (.func (.func 127) #[] (cs0 ++ [gp g]).toArray)]), (1001, Cont.me g 173 (.func (.func 127) #[] (cs0 ++ [gp g]).toArray) (finC text fv) cs0 rfl rfl), (5000, Cont.snap w0 (oldF Mc g own))]) ?_ ?_
            · (refine Ent.mk' ?_ ?_ <;> (repeat' (first | exact allSub_zero | exact allTags_nil | refine allSub_succ' ?_ (Ty.sub_any _) | refine allSub_succ' ?_ (Ty.sub_refl _) | refine allTags_cons rfl (Cont.sub_refl _) ?_)))
            refine t_draw mixed rfl ?_
            refine r_load_ptr rfl rfl (by decide) rfl rfl rfl ?_
            refine r_load_ptr rfl rfl (by decide) rfl rfl rfl ?_
            refine r_callGL [1002] 45 (k_Clone_u8 x.1.s (by omega)) rfl (by repeat (first | exact lends_nil | refine lends_cons (lend_row rfl) ?_)) plain_UB (by decide) (by decide) rfl ?_
            refine mvI rfl ?_
            refine r_buildSlice (E := UB) (xs := [_]) rfl rfl rfl rfl rfl (by decide) (by decide) (by repeat (first | exact (Parts.nil : Parts _ _ [] _) | (show Parts _ _ ((_, _) :: _) _; apply Parts.one; (· exact (rfl : _ = Ty.int _ _)); (· exact rfl)))) (by exact rfl) rfl ?_
            refine r_append rfl rfl (by decide) rfl rfl rfl rfl rfl rfl (by decide) (by (simp <;> omega)) (by (simp <;> omega)) ?_
            refine r_load_ptrN rfl rfl (by decide) rfl rfl (by exact Nat.le_of_ble_eq_true rfl) ?_
            refine r_callF (ss := [Ty.row UB 5 45 (x.1.s ++ [nth (canR f x.1.p) k]), Ty.agg (rdrT f (nextR f x.1.p (nth (canR f x.1.p) k)) 39)]) [(45, 1002), (39, 1003)] (hJ (m0 + (upF f x.1.p x.1.s (text.drop (x.1.s.length + 1)) k).length)) (hJ _) hJx (ih (x.1.s ++ [nth (canR f x.1.p) k]) (nextR f x.1.p (nth (canR f x.1.p) k)) (m0 + (upF f x.1.p x.1.s (text.drop (x.1.s.length + 1)) k).length) (by simp; omega) (by simp; omega) (next_ok x.1.ok hmem) (fi_sub x.1 hlt hc2 hp hk1)) rfl rfl (cv_cons (cv_cons cv_nil (cv_rdr (List.mem_cons_of_mem _ List.mem_cons_self))) (cv_row List.mem_cons_self)) rfl rfl rfl ?_
            refine r_notY (h1 := hJ _) (hx := hJx) rfl ?_
            refine r_nil ?_
            refine ⟨by kernel_rfl, ?_⟩
            refine i_then ?_
            refine t_condY (h1 := hJ _) (hx := hJx) rfl ?_ ?_
            ·
              refine t_seq ?_
              refine t_region ?_
              refine r_store1 rfl rfl (by decide) rfl rfl (by exact (rfl : _ = Ty.bool _)) rfl (by exact Nat.le_of_ble_eq_true rfl) rfl rfl (by exact (rfl : _ = [_])) ?_
              refine r_nil ?_
              refine i_then ?_
              refine t_ret ?_
              refine i_block_ret ?_
              refine q_ret ?_
              (refine Ent.mk' ?_ ?_ <;> (repeat' (first | exact allSub_zero | exact allTags_nil | refine allSub_succ' ?_ (Ty.sub_any _) | refine allTags_cons rfl (Cont.sub_refl _) ?_)))
            ·
              refine t_skip ?_
              refine i_block ?_
              refine q_normal ?_
              (refine Ent.mk' ?_ ?_ <;> (repeat' (first | exact allSub_zero | exact allTags_nil | refine allSub_succ' ?_ (Ty.sub_any _) | refine allTags_cons rfl (Cont.sub_refl _) ?_ | refine allTags_cons rfl ?_ ?_)))
              all_goals exact ck_eq hJ (fi_up x.1 hk1)
        ·
          refine i_block ?_
          refine i_then ?_
          refine t_seq ?_
          refine t_region ?_
          refine r_store1 rfl rfl (by decide) rfl rfl (by exact (rfl : _ = Ty.bool _)) rfl (by exact Nat.le_of_ble_eq_true rfl) rfl rfl (by exact (rfl : _ = [_])) ?_
          refine r_nil ?_
          refine i_then ?_
          refine t_ret ?_
          refine i_block_ret ?_
          refine i_then_ret ?_
          refine i_then_ret ?_
          refine i_block_ret ?_
          refine i_then_ret ?_
          refine m_ret rfl ?_
          exact i_retFt (hj := hJ _) z0 wf0 (congrArg J (by rw [List.length_map, up_all, fi_torn x.1 hlt hc2])) hh0 rfl rfl rfl rfl (by decide) rfl rfl rfl rfl rfl
        · intro _
          refine i_block_ret ?_
          refine i_then_ret ?_
          refine i_block_ret ?_
          refine i_then_ret ?_
          refine i_then_ret ?_
          refine i_block_ret ?_
          refine i_then_ret ?_
          refine m_ret rfl ?_
          exact i_retFx (hx := hJx) z0 wf0 hh0 rfl rfl rfl rfl (by decide) rfl rfl rfl rfl rfl
    ·
      refine t_exit ?_
      refine i_then_exit ?_
      refine i_then_exit ?_
      refine i_block_exit rfl ?_
      refine i_then ?_
      refine t_seq ?_
      refine t_pubC (tg := 1003) [] [(6, Cont.cells 177 (rdrPl f x.1.p))] (by decide) rfl trivial ⟨pubC_cells rfl rfl ⟨pubTy_same rfl, pubTy_same rfl, pubTy_same rfl, pubTy_same rfl, pubTy_same rfl, pubTy_same rfl, pubTy_same rfl, pubTy_same rfl, pubTy_same rfl, pubTy_same rfl, pubTy_row, pubTy_same rfl, trivial⟩, trivial⟩ ?_
      refine t_pub (tg := 6) [(5, Ty.pp (rdrPl f x.1.p))] (by decide) rfl ⟨pub_ptr (T := 177) (tg := 6) (off := 0) (l := rdrPl f x.1.p) rfl rfl rfl (by decide), trivial⟩ ?_
      refine t_region ?_
      refine r_call (c_wholeP _ _) rfl rfl rfl rfl rfl ?_
      refine r_not rfl ?_
      refine mvB rfl ?_
      cases hsp : (wholeR x.1.p)
      ·
        refine r_off rfl rfl rfl rfl ?_
        refine r_off rfl rfl rfl rfl ?_
        refine r_off rfl rfl rfl rfl ?_
        refine r_off rfl rfl rfl rfl ?_
        refine r_off rfl rfl rfl rfl ?_
        refine r_pkT rfl rfl ?_
        refine r_store1 (ty := Ty.bool true) rfl rfl (by decide) rfl rfl rfl rfl (by exact Nat.le_of_ble_eq_true rfl) rfl rfl (by exact (rfl : _ = [_])) ?_
        refine r_nil ?_
        refine i_then ?_
        refine t_ret ?_
        refine m_ret rfl ?_
        exact i_retFt (hj := hJ _) z0 wf0 (congrArg J (by rw [fi_end x.1 hc1, hsp]; rfl)) hh0 rfl rfl rfl rfl (by decide) rfl rfl rfl rfl rfl
      ·
        (refine r_on rfl rfl rfl (by apply opT_of; (refine r_field_pp rfl rfl rfl rfl rfl (by decide) ?_); refine r_nil ?_; exact rfl) ?_)
        (refine r_on rfl rfl rfl (by apply opT_of; (refine r_load_pp rfl rfl rfl rfl ?_); refine r_nil ?_; exact rfl) ?_)
        (refine r_on rfl rfl rfl (by apply opT_of; (refine r_load_ptr rfl rfl (by decide) rfl rfl rfl ?_); refine r_nil ?_; exact rfl) ?_)
        (refine r_on rfl rfl rfl (by apply opT_of; (refine r_convRS rfl rfl rfl rfl rfl Tryz.underlying5 ?_); refine r_nil ?_; exact rfl) ?_)
        (refine r_on rfl rfl rfl (by apply opT_of; (refine r_callFnd hJ hJx hF rfl rfl rfl rfl (by rw [List.getElem?_map, pre_get (by have h := hp; rw [fi_end x.1 hc1, hsp] at h; exact h)]; rfl) rfl ?_); refine r_nil ?_; exact rfl) ?_)
        refine r_pkF rfl rfl ?_
        refine r_store1 (ty := Ty.yb true (hJ (m0 + 1)) hJx) rfl rfl (by decide) rfl rfl rfl rfl (by exact Nat.le_of_ble_eq_true rfl) rfl rfl (by exact (rfl : _ = [_])) ?_
        refine r_nil ?_
        refine i_then ?_
        refine t_ret ?_
        refine m_ret rfl ?_
        exact i_retFy (h1 := hJ _) (hx := hJx) z0 wf0 hh0 rfl rfl rfl rfl (by decide) rfl rfl rfl rfl (Ty.sub_yb (h1 := hJ (m0 + 1)) (congrArg J (by rw [fi_end x.1 hc1, hsp]; rfl)))
end Go.Proofs.YtjjndkenddigiaaGreatDoor

namespace Go.Proofs.YtjjndkenddigiaaGreatDoor
open Go Go.T
theorem figs_few (a : Bool) : (figs a).length ≤ 10 := by cases a <;> decide
theorem can_few (f : BForm) (p : Rdr) : (canR f p).length ≤ 11 := by
  unfold canR
  split
  · simp
  · split
    · rw [figC_eq, List.length_append]
      have := figs_few (ctnB f p)
      split <;> simp <;> omega
    · split
      · split <;> simp
      · rw [List.length_append]
        split <;> split <;> simp
theorem flat_le {α β : Type} {n : Nat} (g : α → List β) : ∀ (l : List α), (∀ x ∈ l, (g x).length ≤ n) → (l.flatMap g).length ≤ l.length * n
  | [], _ => by simp
  | x :: l, h => by
    rw [List.flatMap_cons, List.length_append, List.length_cons, Nat.succ_mul]
    have := flat_le g l fun y hy => h y (List.mem_cons_of_mem _ hy)
    have := h x List.mem_cons_self
    omega
theorem fil_few {f : BForm} : ∀ (t : Byt) (p : Rdr), (fillR f p t).length ≤ 11 ^ tornN t
  | [], p => by
    rw [fillR]; split <;> simp [tornN]
  | c :: t, p => by
    rw [fillR]
    split
    · rename_i hc
      have e : tornN (c :: t) = tornN t := by unfold tornN; rw [List.count_cons_of_ne (by exact hc)]
      rw [e]
      split
      · simp
      · rw [List.length_map]; exact fil_few t _
    · rename_i hc
      have hc : c = 63 := by simpa using hc
      have e : tornN (c :: t) = tornN t + 1 := by unfold tornN; rw [hc, List.count_cons_self]
      rw [e, Nat.pow_succ, Nat.mul_comm]
      refine Nat.le_trans (flat_le (n := 11 ^ tornN t) _ _ fun d _ => ?_) (Nat.mul_le_mul_right _ (can_few f p))
      rw [List.length_map]; exact fil_few t _
theorem all_few {f : BForm} {text : Byt} (h : (tornN text : Int) ≤ 4) : (allF f text).length ≤ 14641 := by
  have h1 := fil_few (f := f) text Rdr.new
  have h2 : 11 ^ tornN text ≤ 11 ^ 4 := Nat.pow_le_pow_right (by omega) (by omega)
  unfold allF; omega
end Go.Proofs.YtjjndkenddigiaaGreatDoor

namespace Go.Proofs.YtjjndkenddigiaaGreatDoor
open Go Go.T
set_option maxHeartbeats 2000000
theorem c_fill1 (f : BForm) (text : Byt) (hl : text.length ≤ 65536) (AL : List (Byt × Rdr)) (fv : Value) (J : Nat → World → Tags → Prop) (Jx : World → Tags → Prop) (hJ : ∀ k, Cb (J k)) (hJx : Cb Jx) (hF : FndC Tryz.prog fv (AL.map (encF f)) J Jx) : ∀ (n : Nat) (s : Byt) (p : Rdr) (m0 : Nat), text.length - s.length ≤ n → RdrOk f p → s.length ≤ text.length → filS f p s (text.drop s.length) <+: AL.drop m0 →
    MoreF Tryz.prog 127 173 (finC text fv) [Ty.row UB 5 1002 s, Ty.agg (rdrT f p 1003)] (J m0) (J (m0 + (filS f p s (text.drop s.length)).length)) Jx
  | 0, s, p, m0, hn, ho, hs, hp => c_fillS f text hl AL fv J Jx hJ hJx hF s p m0 ho hs hp fun s' p' k' h _ _ _ => absurd h (by omega)
  | n + 1, s, p, m0, hn, ho, hs, hp => c_fillS f text hl AL fv J Jx hJ hJx hF s p m0 ho hs hp fun s' p' k' h h2 h3 h4 => c_fill1 f text hl AL fv J Jx hJ hJx hF n s' p' k' (by omega) h3 h2 h4
def finT (f : BForm) (text : Byt) (fv : Value) : List Ty := [Ty.agg [Ty.str (bs text), Ty.ex fv], frmT f]
theorem fin_hfv {f : BForm} {text : Byt} {fid : FuncId} {caps : List Ty} (w : World) (M : Tags) (vs : List Value) (h : dens w M [Ty.agg [Ty.str (bs text), Ty.clo fid caps], frmT f] vs) : ∃ cs : Array Value, dens w M caps cs.toList ∧ dens w M (finT f text (.func (.func fid) #[] cs)) vs := by
  match vs, h with
  | [v, u], ⟨⟨zs, e, ha⟩, h2, _⟩ =>
    obtain ⟨zs⟩ := zs
    match zs, ha with
    | [a1, a2], ⟨h3, ⟨cs, e2, h4⟩, _⟩ => exact ⟨cs, h4, ⟨⟨_, e, h3, e2, trivial⟩, h2, trivial⟩⟩
theorem allE_pub (f : BForm) (l : List (Byt × Rdr)) : ∀ tys ∈ l.map (encF f), depsOf tys = [] ∧ cdepsOf tys = [] := by
  intro t ht
  obtain ⟨y, _, rfl⟩ := List.mem_map.1 ht
  exact ⟨rfl, rfl⟩
def cntV (f : BForm) (text : Byt) : Int × Int := if tornE f text ≠ 0 then (0, tornE f text) else ((((allF f text).length : Nat) : Int), 0)
def filL (f : BForm) (text : Byt) (k : Nat) : List Byt := ((allF f text).take k).map Prod.fst
def filV (f : BForm) (text : Byt) : List Byt × Int := if tornE f text ≠ 0 then ([], tornE f text) else (filL f text 2, 0)
def resB (f : BForm) (text : Byt) (k : Nat) : Book := if k = 0 then Book.zero else ⟨f, (nth (allF f text) (k - 1)).2.read⟩
def resV (f : BForm) (text : Byt) : Book × Int := if tornE f text ≠ 0 then (Book.zero, tornE f text) else if (allF f text).length = 0 then (Book.zero, 6) else if (allF f text).length = 1 then (resB f text 1, 0) else (Book.zero, 7)
theorem cnt_1 {f : BForm} {text : Byt} (h : ¬ tornE f text = 0) : cntV f text = (0, tornE f text) := if_pos h
theorem cnt_2 {f : BForm} {text : Byt} (h : tornE f text = 0) : cntV f text = ((((allF f text).length : Nat) : Int), 0) := if_neg (fun e => e h)
theorem fv_1 {f : BForm} {text : Byt} (h : ¬ tornE f text = 0) : filV f text = ([], tornE f text) := if_pos h
theorem fv_2 {f : BForm} {text : Byt} (h : tornE f text = 0) : filV f text = (filL f text 2, 0) := if_neg (fun e => e h)
theorem rv_1 {f : BForm} {text : Byt} (h : ¬ tornE f text = 0) : resV f text = (Book.zero, tornE f text) := if_pos h
theorem rv_2 {f : BForm} {text : Byt} (h : tornE f text = 0) (h2 : ((min 2 (allF f text).length : Nat) : Int) = 0) : resV f text = (Book.zero, 6) := by
  unfold resV; rw [if_neg (fun e => e h), if_pos (by omega)]
theorem rv_3 {f : BForm} {text : Byt} (h : tornE f text = 0) (h2 : ¬ ((min 2 (allF f text).length : Nat) : Int) = 0) (h3 : ((min 2 (allF f text).length : Nat) : Int) = 1) : resV f text = (resB f text (min 2 (allF f text).length), 0) := by
  unfold resV; rw [if_neg (fun e => e h), if_neg (by omega), if_pos (by omega), show min 2 (allF f text).length = 1 by omega]
theorem rv_4 {f : BForm} {text : Byt} (h : tornE f text = 0) (h2 : ¬ ((min 2 (allF f text).length : Nat) : Int) = 0) (h3 : ¬ ((min 2 (allF f text).length : Nat) : Int) = 1) : resV f text = (Book.zero, 7) := by
  unfold resV; rw [if_neg (fun e => e h), if_neg (by omega), if_neg (by omega)]
theorem torn_ok {f : BForm} {text : Byt} (h : tornE f text = 0) : FormOk f ∧ text.length ≤ 65536 ∧ (tornN text : Int) ≤ 4 := by
  unfold tornE at h
  split at h
  · rename_i h1; exact absurd h h1
  · rename_i h1
    split at h
    · cases h
    · rename_i h2
      split at h
      · cases h
      · rename_i h3
        exact ⟨frmY_zero.1 (by simpa using h1), by omega, by omega⟩
theorem all_ok {f : BForm} {text : Byt} (hf : FormOk f) {k : Nat} (hk : k < (allF f text).length) : RdrOk f (nth (allF f text) k).2 := (fillR_ok text _ (new_ok hf) _ (nth_mem hk)).1
theorem enc_at {f : BForm} {text : Byt} {k : Nat} {tys : List Ty} (h : ((allF f text).map (encF f))[k]? = some tys) : k < (allF f text).length ∧ tys = encF f (nth (allF f text) k) := enc_get h
theorem filL_succ {f : BForm} {text : Byt} {k : Nat} (hk : k < (allF f text).length) : filL f text (k + 1) = filL f text k ++ [(nth (allF f text) k).1] := by
  unfold filL; rw [take_nth hk, List.map_append]; rfl
theorem filL_all {f : BForm} {text : Byt} (h : (allF f text).length < 2) : filL f text (allF f text).length = filL f text 2 := by
  unfold filL; rw [List.take_of_length_le (Nat.le_refl _), List.take_of_length_le (by omega)]
theorem filL_len (f : BForm) (text : Byt) (k : Nat) : (filL f text k).length ≤ k := by unfold filL; rw [List.length_map, List.length_take]; omega
theorem fil_nil0 {f : BForm} {text : Byt} : (Ty.ex (.slice none 0 0)).Sub (Ty.row StrE 9 500 (filL f text 0)) := by
  rw [show filL f text 0 = [] from by simp [filL]]; exact Ty.nil_row
theorem res_zero {f : BForm} {text : Byt} : Subs [Ty.ex (.slice none 0 0), Ty.int .i64 0, Ty.ex (.slice none 0 0)] (bokTys (resB f text 0)) := ⟨Ty.nil_sl, Ty.sub_refl _, Ty.nil_sl, trivial⟩
theorem resB_succ (f : BForm) (text : Byt) (k : Nat) : resB f text (k + 1) = ⟨f, (nth (allF f text) k).2.read⟩ := by unfold resB; rw [if_neg (by omega)]; rfl
theorem res_b (k : Nat) : decide ((k : Int) + 1 < 2) = decide (k + 1 < 2) := by rw [decide_eq_decide]; omega
theorem fil_b (l : List Byt) (s : Byt) : decide (((l ++ [s]).length : Int) < 2) = decide ((l.length : Int) + 1 < 2) := by simp
theorem filL_len2 {f : BForm} {text : Byt} {k : Nat} (h : k < (allF f text).length) : (filL f text k).length = k := by unfold filL; rw [List.length_map, List.length_take]; omega
theorem fil_px {f : BForm} {text : Byt} {k : Nat} (h : k < 2) (h2 : ¬ k + 1 < 2) : PostCs [(1000, Cont.cells 53 [Ty.row StrE 9 1001 (filL f text (k + 1))])] [(8, 1000), (500, 1001)] [(8, Cont.cells 53 [Ty.row StrE 9 500 (filL f text 2)])] := by
  obtain rfl : k = 1 := by omega
  exact post_cons (a := 8) (b := 1000) (by decide) rfl (cc_cells (by decide) (cv_cons cv_nil (cv_row (by decide)))) post_nil
theorem res_px {f : BForm} {text : Byt} {k : Nat} (h : k < 2) (h2 : ¬ k + 1 < 2) : PostCs [(1000, Cont.cells 27 (bokTys (resB f text (k + 1)))), (1001, Cont.cells 3 [Ty.int .i64 ((k + 1 : Nat) : Int)])] [(8, 1000), (9, 1001)] [(8, Cont.cells 27 (bokTys (resB f text 2))), (9, Cont.cells 3 [Ty.int .i64 ((2 : Nat) : Int)])] := by
  obtain rfl : k = 1 := by omega
  exact post_cons (a := 8) (b := 1000) (by decide) rfl (cc_cells_eq (by decide) rfl rfl rfl) (post_cons (a := 9) (b := 1001) (by decide) rfl (cc_cells_eq (by decide) rfl rfl rfl) post_nil)
attribute [local irreducible] allF tornE wholeR cntV filV resV filL resB
attribute [local irreducible] dInt dBool dSl dPp dPtr dAgg dTup dClo dAny dEx dStr dGd dCells dVec dVs dRow dOp nth Tri Into TOps Ctr bodyPost Exit.then Exit.inBlock Code.wp Code.wpIn dPa dArr dMp dMap CtrG keepPost iterPost bodyPostM roundQ
set_option maxRecDepth 100000 in
theorem c_fill (f : BForm) (hf : FormOk f) (text : Byt) (hl : text.length ≤ 65536) : CtrFd Tryz.prog 83 (fun fv => (finT f text fv)) ((allF f text).map (encF f)) := by
  refine fnFd_intro Tryz.func83 rfl (by decide) Tryz.ntmps83 (fun _ => by exact Nat.le_of_ble_eq_true rfl) (fun _ => ⟨rfl, rfl⟩) fun fv J Jx hJ hJx hF w0 Mc wf0 z0 => ?_
  refine t_seq ?_
  refine t_region ?_
  refine r_box_agg rfl ?_
  refine r_box_agg rfl ?_
  refine r_nil ?_
  refine i_then ?_
  refine t_seq ?_
  refine t_region ?_
  refine r_alloc rfl (by exact List.cons_ne_nil _ _) rfl ?_
  refine r_nil ?_
  refine i_then ?_
  refine t_seq ?_
  refine t_region ?_
  refine r_makeFunc rfl ?_
  refine r_store1 rfl rfl (by decide) rfl rfl (by exact (rfl : _ = Ty.clo _ _)) rfl (by exact Nat.le_of_ble_eq_true rfl) rfl rfl (by exact (rfl : _ = [_])) ?_
  refine r_nil ?_
  refine i_then ?_
  refine t_draw mixed rfl ?_
  refine r_load_ptr rfl rfl (by decide) rfl rfl rfl ?_
  refine r_load_ppN rfl rfl rfl (by exact Nat.le_of_ble_eq_true rfl) ?_
  refine r_callG [(9, 6), (500, 5)] [9, 500] [(9, Cont.cells 177 (rdrT f Rdr.new 500))] (k_opened f) rfl rfl (by repeat (first | exact cv_nil | refine cv_cons ?_ ?_ | exact cv_pub rfl rfl)) pre_nil (post_cons (a := 9) (b := 6) (by exact List.mem_cons_self) rfl (cc_rdr (by exact List.mem_cons_self) (List.mem_cons_of_mem _ List.mem_cons_self) rfl) post_nil) (cv_ptr (by exact List.mem_cons_self)) ?_
  refine r_nilCheck_ptr rfl ?_
  refine r_load_ptrN rfl rfl (by decide) rfl rfl (by exact Nat.le_of_ble_eq_true rfl) ?_
  refine r_callF0 (tg := 5) (ss := [Ty.ex (.slice none 0 0), Ty.agg (rdrT f Rdr.new 500)]) [(500, 1003)] (hJ 0) (hJ (0 + (filS f Rdr.new [] (text.drop ([] : Byt).length)).length)) hJx (c_fill1 f text hl (allF f text) fv J Jx hJ hJx hF text.length [] Rdr.new 0 (by simp) (new_ok hf) (Nat.zero_le _) (by rw [List.length_nil, List.drop_zero, fil_all, List.drop_zero]; exact List.prefix_rfl)) rfl rfl rfl rfl (cv_cons (cv_cons cv_nil (cv_rdr List.mem_cons_self)) cv_nilrow) rfl rfl (by decide) rfl ?_
  refine r_nil ?_
  refine ⟨by kernel_rfl, ?_⟩
  exact i_retFd (hJ := hJ) (h1 := hJ _) (hx := hJx) z0 wf0 (by rw [List.length_nil, List.drop_zero, fil_all, List.length_map, Nat.zero_add]) rfl rfl rfl
set_option maxRecDepth 100000 in
theorem k_Count1 (k : Nat) (h : k ≤ 100000) : CtrG Tryz.prog 82 [1000] [(1000, Cont.cells 3 [Ty.int .i64 (k : Nat)])] [Ty.any, Ty.any, Ty.ptr 1000 0] [(1000, Cont.cells 3 [Ty.int .i64 ((k + 1 : Nat) : Int)])] (Ty.bool true) := by
  refine fnG_intro Tryz.func82 rfl (by decide) Tryz.ntmps82 (by exact Nat.le_of_ble_eq_true rfl) fun w0 M0 => ?_
  refine t_seq ?_
  refine t_region ?_
  refine asB rfl ?_
  refine r_nil ?_
  refine i_then ?_
  refine t_seq ?_
  refine t_region ?_
  refine r_load_ptr rfl rfl (by decide) rfl rfl rfl ?_
  refine r_add rfl rfl (by omega) (by omega) ?_
  refine r_store1 rfl rfl (by decide) rfl rfl (by exact (rfl : _ = Ty.int _ _)) rfl (by exact Nat.le_of_ble_eq_true rfl) rfl rfl (by exact (rfl : _ = [_])) ?_
  refine r_nil ?_
  refine i_then ?_
  refine t_seq ?_
  refine t_region ?_
  refine asB rfl ?_
  refine r_nil ?_
  refine i_then ?_
  refine t_ret ?_
  refine g_ret1 [1000] rfl rfl (by decide) ?_ ?_
  exact rc_cons rfl (cc_cells_eq (by decide) rfl rfl rfl) rc_nil
  all_goals exact rg_cv (cv_pub rfl rfl)
set_option maxRecDepth 100000 in
theorem c_Count (f : BForm) (text : Byt) : Ctr Tryz.prog 27 [frmT f, Ty.str (bs text)] (Ty.tup [Ty.int .i64 (cntV f text).1, Ty.int .i64 (cntV f text).2]) := by
  refine fn_intro Tryz.func27 rfl (by decide) Tryz.ntmps27 (by exact Nat.le_of_ble_eq_true rfl) fun w0 M0 => ?_
  refine t_seq ?_
  refine t_region ?_
  refine r_box_agg rfl ?_
  refine asI rfl ?_
  refine asI rfl ?_
  refine r_nil ?_
  refine i_then ?_
  refine t_seq ?_
  refine t_seq ?_
  refine t_region ?_
  refine r_load_ppN rfl rfl rfl (by exact Nat.le_of_ble_eq_true rfl) ?_
  refine mvS' rfl ?_
  refine r_call (c_torn _ _) rfl rfl rfl rfl rfl ?_
  refine asI rfl ?_
  refine r_nil ?_
  refine i_then ?_
  refine t_seq ?_
  refine t_region ?_
  refine mvI rfl ?_
  refine r_bin rfl rfl rfl ?_
  refine r_nil ?_
  refine i_then ?_
  refine t_cond_ndec rfl (fun hc1 => ?_) (fun hc1 => ?_)
  ·
    refine t_seq ?_
    refine t_region ?_
    refine mvI rfl ?_
    refine asI rfl ?_
    refine asI rfl ?_
    refine r_nil ?_
    refine i_then ?_
    refine t_ret ?_
    refine i_then_ret ?_
    refine i_rp2 rfl rfl rfl ?_ ?_
    all_goals skip
    all_goals (rw [cnt_1 hc1]; exact ret_refl rfl rfl)
  ·
    refine t_skip ?_
    refine i_then ?_
    refine t_seq ?_
    refine t_region ?_
    refine r_alloc rfl (by exact List.cons_ne_nil _ _) rfl ?_
    refine r_store1 rfl rfl (by decide) rfl rfl (by exact (rfl : _ = Ty.int _ _)) rfl (by exact Nat.le_of_ble_eq_true rfl) rfl rfl (by exact (rfl : _ = [_])) ?_
    refine r_nil ?_
    refine i_then ?_
    refine t_seq ?_
    obtain ⟨hf, hl, h4⟩ := torn_ok hc1
    have hfew := all_few (f := f) h4
    refine t_region ?_
    refine mvS' rfl ?_
    refine r_makeFunc rfl ?_
    refine r_build rfl rfl (by exact List.cons_ne_nil _ _) rfl (by repeat (first | exact (Parts.nil : Parts _ _ [] _) | (show Parts _ _ ((_, _) :: _) _; apply Parts.one; (· first | exact (rfl : _ = Ty.clo _ _) | exact (rfl : _ = Ty.str _)); (· exact rfl)))) (by exact (rfl : _ = some [_, _])) ?_
    refine r_load_ppN rfl rfl rfl (by exact Nat.le_of_ble_eq_true rfl) ?_
    refine r_op (opT_callFd (fid := 82) (caps := [Ty.ptr 8 0]) (S := [8]) (K := []) (mv := []) (F := [1000]) (px := False) (ok := fun _ => True) (tgs := fun k => [(8, Cont.cells 3 [Ty.int .i64 (k : Nat)])]) (tgx := []) (sets := [(8, Cont.cells 3 [Ty.int .i64 ((allF f text).length : Nat)])]) (ρ := [(8, 1000)]) (pre := fun k => [(1000, Cont.cells 3 [Ty.int .i64 (k : Nat)])]) (post := fun k => [(1000, Cont.cells 3 [Ty.int .i64 ((k + 1 : Nat) : Int)])]) (argsF := fun _ => [Ty.any, Ty.any, Ty.ptr 1000 0]) (go := fun _ => true) (c_fill f hf text hl) rfl fin_hfv (fun _ => ⟨rfl, rfl⟩) (k_Count1 0 (by decide)).ex (fun k _ hk => k_Count1 k (by rw [List.length_map] at hk; omega)) rfl rfl rfl rfl (by decide) (by intro t h; cases h) (by decide) (by decide) (allE_pub f _) (fun k tys hk => by obtain ⟨_, rfl⟩ := enc_at hk; exact cv_cons (cv_cons (cv_cons cv_nil (cv_ptr (by decide))) cv_any) cv_any) (fun k => pre_cons (a := 8) (by decide) rfl (cc_cells_eq (by decide) rfl rfl rfl) pre_nil) (fun k _ _ => post_cons (a := 8) (b := 1000) (by decide) rfl (cc_cells_eq (by decide) rfl rfl rfl) post_nil) (fun k _ h => by cases h) trivial (fun _ _ _ _ => trivial) (fun _ _ _ h => by cases h) (fun _ => rfl) rfl (allTags_cons rfl (Cont.sub_subs ⟨Ty.sub_int rfl, trivial⟩) allTags_nil) (by decide) (by intro t h; cases h) (by simp) rfl (fun _ w M h x hx => by rw [List.length_map] at h; exact h x hx) (fun h => h.elim)) ?_
    refine r_nil ?_
    refine i_then ?_
    refine t_seq ?_
    refine t_region ?_
    refine r_load_ptr rfl rfl (by decide) rfl rfl rfl ?_
    refine asI rfl ?_
    refine asI rfl ?_
    refine r_nil ?_
    refine i_then ?_
    refine t_ret ?_
    refine i_rp2 rfl rfl rfl ?_ ?_
    all_goals skip
    all_goals (rw [cnt_2 hc1]; exact ret_refl rfl rfl)
set_option maxRecDepth 100000 in
theorem k_Fillings1 (s : Byt) (l : List Byt) (h : l.length ≤ 2) : CtrG Tryz.prog 84 [1000] [(1000, Cont.cells 53 [Ty.row StrE 9 1001 l])] [Ty.str (bs s), Ty.any, Ty.ptr 1000 0] [(1000, Cont.cells 53 [Ty.row StrE 9 1001 (l ++ [s])])] (Ty.bool (decide (((l.length : Nat) : Int) + 1 < 2))) := by
  refine fnG_intro Tryz.func84 rfl (by decide) Tryz.ntmps84 (by exact Nat.le_of_ble_eq_true rfl) fun w0 M0 => ?_
  refine t_seq ?_
  refine t_region ?_
  refine asB rfl ?_
  refine r_nil ?_
  refine i_then ?_
  refine t_seq ?_
  refine t_region ?_
  refine r_load_ptr rfl rfl (by decide) rfl rfl rfl ?_
  refine mvS' rfl ?_
  refine r_buildSlice (E := StrE) (xs := [_]) rfl rfl rfl rfl rfl (by decide) (by decide) (by repeat (first | exact (Parts.nil : Parts _ _ [] _) | (show Parts _ _ ((_, _) :: _) _; apply Parts.one; (· exact (rfl : _ = Ty.str _)); (· exact rfl)))) (by exact rfl) rfl ?_
  refine r_append rfl rfl (by decide) rfl rfl rfl rfl rfl rfl (by decide) (by (simp <;> omega)) (by (simp <;> omega)) ?_
  refine r_store1 rfl rfl (by decide) rfl rfl (by exact (rfl : _ = Ty.row _ _ _ _)) rfl (by exact Nat.le_of_ble_eq_true rfl) rfl rfl (by exact (rfl : _ = [_])) ?_
  refine r_nil ?_
  refine i_then ?_
  refine t_seq ?_
  refine t_region ?_
  refine r_load_ptr rfl rfl (by decide) rfl rfl rfl ?_
  refine r_len_row rfl rfl rfl ?_
  refine r_bin rfl rfl rfl ?_
  refine asB rfl ?_
  refine r_nil ?_
  refine i_then ?_
  refine t_ret ?_
  refine g_ret1 [1000, 1001] rfl rfl (by decide) ?_ ?_
  exact rc_cons rfl (cc_cells (by decide) (cv_cons cv_nil (cv_row (by decide)))) rc_nil
  all_goals skip
  all_goals exact rg_cv (cv_sub rfl rfl (Ty.sub_bool (fil_b _ _)))
theorem fil_ctr {f : BForm} {text : Byt} {k : Nat} (hk : k < (allF f text).length) (h2 : k < 2) : CtrG Tryz.prog 84 [1000] [(1000, Cont.cells 53 [Ty.row StrE 9 1001 (filL f text k)])] [Ty.str (bs (nth (allF f text) k).1), Ty.any, Ty.ptr 1000 0] [(1000, Cont.cells 53 [Ty.row StrE 9 1001 (filL f text (k + 1))])] (Ty.bool (decide (k + 1 < 2))) := by
  have h := k_Fillings1 (nth (allF f text) k).1 (filL f text k) (by have := filL_len f text k; omega)
  rw [← filL_succ hk, filL_len2 hk] at h
  rwa [show decide ((k : Int) + 1 < 2) = decide (k + 1 < 2) from by rw [decide_eq_decide]; omega] at h
set_option maxRecDepth 100000 in
theorem c_Fillings (f : BForm) (text : Byt) : Ctr Tryz.prog 28 [frmT f, Ty.str (bs text)] (Ty.tup [Ty.sl StrE (filV f text).1, Ty.int .i64 (filV f text).2]) := by
  refine fn_intro Tryz.func28 rfl (by decide) Tryz.ntmps28 (by exact Nat.le_of_ble_eq_true rfl) fun w0 M0 => ?_
  refine t_seq ?_
  refine t_region ?_
  refine r_box_agg rfl ?_
  refine asX rfl ?_
  refine asI rfl ?_
  refine r_nil ?_
  refine i_then ?_
  refine t_seq ?_
  refine t_seq ?_
  refine t_region ?_
  refine r_load_ppN rfl rfl rfl (by exact Nat.le_of_ble_eq_true rfl) ?_
  refine mvS' rfl ?_
  refine r_call (c_torn _ _) rfl rfl rfl rfl rfl ?_
  refine asI rfl ?_
  refine r_nil ?_
  refine i_then ?_
  refine t_seq ?_
  refine t_region ?_
  refine mvI rfl ?_
  refine r_bin rfl rfl rfl ?_
  refine r_nil ?_
  refine i_then ?_
  refine t_cond_ndec rfl (fun hc1 => ?_) (fun hc1 => ?_)
  ·
    refine t_seq ?_
    refine t_region ?_
    refine mvI rfl ?_
    refine asX rfl ?_
    refine asI rfl ?_
    refine r_nil ?_
    refine i_then ?_
    refine t_ret ?_
    refine i_then_ret ?_
    refine i_rp2 rfl rfl rfl ?_ ?_
    all_goals skip
    all_goals (rw [fv_1 hc1]; first | exact ret_refl rfl rfl | exact ret_nil)
  ·
    refine t_skip ?_
    refine i_then ?_
    refine t_seq ?_
    refine t_region ?_
    refine r_alloc rfl (by exact List.cons_ne_nil _ _) rfl ?_
    refine r_nil ?_
    refine i_then ?_
    refine t_seq ?_
    obtain ⟨hf, hl, h4⟩ := torn_ok hc1
    have hfew := all_few (f := f) h4
    refine t_region ?_
    refine mvS' rfl ?_
    refine r_makeFunc rfl ?_
    refine r_build rfl rfl (by exact List.cons_ne_nil _ _) rfl (by repeat (first | exact (Parts.nil : Parts _ _ [] _) | (show Parts _ _ ((_, _) :: _) _; apply Parts.one; (· first | exact (rfl : _ = Ty.clo _ _) | exact (rfl : _ = Ty.str _)); (· exact rfl)))) (by exact (rfl : _ = some [_, _])) ?_
    refine r_load_ppN rfl rfl rfl (by exact Nat.le_of_ble_eq_true rfl) ?_
    refine r_op (opT_callFd (fid := 84) (caps := [Ty.ptr 8 0]) (S := [8, 500]) (K := [500]) (mv := [500]) (F := [1000]) (px := 2 ≤ (allF f text).length) (ok := fun k => k < 2) (tgs := fun k => [(8, Cont.cells 53 [Ty.row StrE 9 500 (filL f text k)])]) (tgx := [(8, Cont.cells 53 [Ty.row StrE 9 500 (filL f text 2)])]) (sets := [(8, Cont.cells 53 [Ty.row StrE 9 500 (filL f text 2)])]) (ρ := [(8, 1000), (500, 1001)]) (pre := fun k => [(1000, Cont.cells 53 [Ty.row StrE 9 1001 (filL f text k)])]) (post := fun k => [(1000, Cont.cells 53 [Ty.row StrE 9 1001 (filL f text (k + 1))])]) (argsF := fun k => [Ty.str (bs (nth (allF f text) k).1), Ty.any, Ty.ptr 1000 0]) (go := fun k => decide (k + 1 < 2)) (c_fill f hf text hl) rfl fin_hfv (fun _ => ⟨rfl, rfl⟩) (k_Fillings1 [] [] (by decide)).ex (fun k h2 hk => by rw [List.length_map] at hk; exact fil_ctr hk h2) rfl rfl rfl rfl (by decide) (by intro t h; rw [List.mem_singleton.1 h]; exact ⟨1001, by decide⟩) (by decide) (by decide) (allE_pub f _) (fun k tys hk => by obtain ⟨_, rfl⟩ := enc_at hk; exact cv_cons (cv_cons (cv_cons cv_nil (cv_ptr (by decide))) cv_any) (cv_pub rfl rfl)) (fun k => pre_cons (a := 8) (by decide) rfl (cc_cells (by decide) (cv_cons cv_nil (cv_row (by decide)))) pre_nil) (fun k _ _ => post_cons (a := 8) (b := 1000) (by decide) rfl (cc_cells (by decide) (cv_cons cv_nil (cv_row (by decide)))) post_nil) (fun k h2 hg => fil_px h2 (of_decide_eq_false hg)) (by decide) (fun k _ _ hg => of_decide_eq_true hg) (fun k h1 h2 hg => by have hg := of_decide_eq_false hg; rw [List.length_map] at h2; omega) (fun _ => rfl) rfl (allTags_cons rfl (Cont.sub_subs ⟨fil_nil0, trivial⟩) allTags_nil) (by decide) (by intro t h; rw [List.mem_singleton.1 h]; exact ⟨by decide, by simp⟩) (by simp) rfl (fun hlt w M h x hx => by rw [List.length_map] at h hlt; rw [filL_all hlt] at h; exact h x hx) (fun _ w M h x hx => h x hx)) ?_
    refine r_nil ?_
    refine i_then ?_
    refine t_seq ?_
    refine t_region ?_
    refine r_load_ptr rfl rfl (by decide) rfl rfl rfl ?_
    refine asR rfl ?_
    refine asI rfl ?_
    refine r_nil ?_
    refine i_then ?_
    refine t_ret ?_
    refine i_rp2 rfl rfl rfl ?_ ?_
    all_goals skip
    all_goals (rw [fv_2 hc1]; first | exact ret_row (by decide) | exact ret_refl rfl rfl)
set_option maxRecDepth 100000 in
theorem c_bookP (f : BForm) (p : Rdr) (h : p.read.length ≤ 13) (hw : f.widths.length ≤ 1000) (hn : ∀ r ∈ p.read, r.nums.length ≤ 1000) : Ctr Tryz.prog 86 [Ty.pp (rdrPl f p)] (bokT ⟨f, p.read⟩) := by
  refine fn_intro Tryz.func86 rfl (by decide) Tryz.ntmps86 (by exact Nat.le_of_ble_eq_true rfl) fun w0 M0 => ?_
  refine t_seq ?_
  refine t_region ?_
  refine r_alloc rfl (by exact List.cons_ne_nil _ _) rfl ?_
  refine r_nil ?_
  refine i_then ?_
  refine t_seq ?_
  refine t_draw mixed rfl ?_
  refine mvP rfl ?_
  refine r_nilCheck_pp rfl ?_
  refine r_field_pp rfl rfl rfl rfl rfl (by decide) ?_
  refine r_load_ppN rfl rfl rfl (by exact Nat.le_of_ble_eq_true rfl) ?_
  refine mvP rfl ?_
  refine r_nilCheck_pp rfl ?_
  refine r_field_pp rfl rfl rfl rfl rfl (by decide) ?_
  refine r_load_pp rfl rfl rfl rfl ?_
  refine r_build rfl rfl (by exact List.cons_ne_nil _ _) rfl (by repeat (first | exact (Parts.nil : Parts _ _ [] _) | (show Parts _ _ ((_, _) :: _) _; apply Parts.one; (· exact (rfl : _ = Ty.sl _ _)); (· exact rfl)) | (show Parts _ _ ((_, _) :: _) _; apply Parts.agg; (· exact (rfl : _ = Ty.agg _))))) (by exact (rfl : _ = some [_, _, _])) ?_
  refine r_call (c_own ⟨f, p.read⟩ h hw hn) rfl rfl rfl rfl rfl ?_
  refine r_storeN rfl rfl (by decide) rfl rfl rfl rfl rfl rfl ?_
  refine r_nil ?_
  refine ⟨by kernel_rfl, ?_⟩
  refine i_then ?_
  refine t_ret ?_
  refine i_rcell rfl rfl rfl rfl (by decide) rfl rfl rfl ?_
  exact ret_refl rfl rfl
set_option maxRecDepth 100000 in
theorem k_Restore1 (f : BForm) (p : Rdr) (h : p.read.length ≤ 13) (hw : f.widths.length ≤ 1000) (hn : ∀ r ∈ p.read, r.nums.length ≤ 1000) (b : Book) (k : Nat) (hk : k ≤ 2) : CtrG Tryz.prog 85 [1000, 1001] [(1000, Cont.cells 27 (bokTys b)), (1001, Cont.cells 3 [Ty.int .i64 (k : Nat)])] [Ty.any, Ty.pp (rdrPl f p), Ty.ptr 1000 0, Ty.ptr 1001 0] [(1000, Cont.cells 27 (bokTys ⟨f, p.read⟩)), (1001, Cont.cells 3 [Ty.int .i64 ((k + 1 : Nat) : Int)])] (Ty.bool (decide (k + 1 < 2))) := by
  refine fnG_intro Tryz.func85 rfl (by decide) Tryz.ntmps85 (by exact Nat.le_of_ble_eq_true rfl) fun w0 M0 => ?_
  refine t_seq ?_
  refine t_region ?_
  refine asB rfl ?_
  refine r_nil ?_
  refine i_then ?_
  refine t_seq ?_
  refine t_region ?_
  refine mvP rfl ?_
  refine r_call (c_bookP f p h hw hn) rfl rfl rfl rfl rfl ?_
  refine r_storeN rfl rfl (by decide) rfl rfl rfl rfl rfl rfl ?_
  refine r_nil ?_
  refine i_then ?_
  refine t_seq ?_
  refine t_region ?_
  refine r_load_ptr rfl rfl (by decide) rfl rfl rfl ?_
  refine r_add rfl rfl (by omega) (by omega) ?_
  refine r_store1 rfl rfl (by decide) rfl rfl (by exact (rfl : _ = Ty.int _ _)) rfl (by exact Nat.le_of_ble_eq_true rfl) rfl rfl (by exact (rfl : _ = [_])) ?_
  refine r_nil ?_
  refine i_then ?_
  refine t_seq ?_
  refine t_region ?_
  refine r_load_ptr rfl rfl (by decide) rfl rfl rfl ?_
  refine r_bin rfl rfl rfl ?_
  refine asB rfl ?_
  refine r_nil ?_
  refine i_then ?_
  refine t_ret ?_
  refine g_ret1 [1000, 1001] rfl rfl (by decide) ?_ ?_
  exact rc_cons rfl (cc_cells_eq (by decide) rfl rfl rfl) (rc_cons rfl (cc_cells_eq (by decide) rfl rfl rfl) rc_nil)
  all_goals skip
  all_goals exact rg_cv (cv_sub rfl rfl (Ty.sub_bool (res_b k)))
theorem res_ctr {f : BForm} {text : Byt} {k : Nat} (hf : FormOk f) (ho : RdrOk f (nth (allF f text) k).2) (h2 : k < 2) : CtrG Tryz.prog 85 [1000, 1001] [(1000, Cont.cells 27 (bokTys (resB f text k))), (1001, Cont.cells 3 [Ty.int .i64 (k : Nat)])] [Ty.any, Ty.pp (rdrPl f (nth (allF f text) k).2), Ty.ptr 1000 0, Ty.ptr 1001 0] [(1000, Cont.cells 27 (bokTys (resB f text (k + 1)))), (1001, Cont.cells 3 [Ty.int .i64 ((k + 1 : Nat) : Int)])] (Ty.bool (decide (k + 1 < 2))) := by
  have h := k_Restore1 f (nth (allF f text) k).2 ho.len (by have := hf.n2; omega) ho.num_len (resB f text k) k (by omega)
  rwa [← resB_succ] at h
set_option maxRecDepth 100000 in
theorem c_Restore (f : BForm) (text : Byt) : Ctr Tryz.prog 29 [frmT f, Ty.str (bs text)] (Ty.tup [bokT (resV f text).1, Ty.int .i64 (resV f text).2]) := by
  refine fn_intro Tryz.func29 rfl (by decide) Tryz.ntmps29 (by exact Nat.le_of_ble_eq_true rfl) fun w0 M0 => ?_
  refine t_seq ?_
  refine t_region ?_
  refine r_box_agg rfl ?_
  refine r_alloc rfl (by exact List.cons_ne_nil _ _) rfl ?_
  refine asI rfl ?_
  refine r_nil ?_
  refine i_then ?_
  refine t_seq ?_
  refine t_seq ?_
  refine t_region ?_
  refine r_load_ppN rfl rfl rfl (by exact Nat.le_of_ble_eq_true rfl) ?_
  refine mvS' rfl ?_
  refine r_call (c_torn _ _) rfl rfl rfl rfl rfl ?_
  refine asI rfl ?_
  refine r_nil ?_
  refine i_then ?_
  refine t_seq ?_
  refine t_region ?_
  refine mvI rfl ?_
  refine r_bin rfl rfl rfl ?_
  refine r_nil ?_
  refine i_then ?_
  refine t_cond_ndec rfl (fun hc1 => ?_) (fun hc1 => ?_)
  ·
    refine t_seq ?_
    refine t_region ?_
    refine r_build rfl rfl (by exact List.cons_ne_nil _ _) rfl (by repeat (exact (Parts.nil : Parts _ _ [] _))) (by exact (rfl : _ = some [_, _, _])) ?_
    refine mvI rfl ?_
    refine r_storeN rfl rfl (by decide) rfl rfl rfl rfl rfl rfl ?_
    refine asI rfl ?_
    refine r_nil ?_
    refine i_then ?_
    refine t_ret ?_
    refine i_then_ret ?_
    refine i_rcell2 rfl rfl rfl rfl rfl (by decide) rfl rfl rfl ?_ ?_
    all_goals skip
    all_goals (rw [rv_1 hc1]; first | exact ret_sub rfl rfl zero_bok | exact ret_refl rfl rfl)
  ·
    refine t_skip ?_
    refine i_then ?_
    refine t_seq ?_
    refine t_region ?_
    refine r_alloc rfl (by exact List.cons_ne_nil _ _) rfl ?_
    refine r_nil ?_
    refine i_then ?_
    refine t_seq ?_
    refine t_region ?_
    refine r_alloc rfl (by exact List.cons_ne_nil _ _) rfl ?_
    refine r_store1 rfl rfl (by decide) rfl rfl (by exact (rfl : _ = Ty.int _ _)) rfl (by exact Nat.le_of_ble_eq_true rfl) rfl rfl (by exact (rfl : _ = [_])) ?_
    refine r_nil ?_
    refine i_then ?_
    refine t_seq ?_
    obtain ⟨hf, hl, h4⟩ := torn_ok hc1
    have hfew := all_few (f := f) h4
    refine t_region ?_
    refine mvS' rfl ?_
    refine r_makeFunc rfl ?_
    refine r_build rfl rfl (by exact List.cons_ne_nil _ _) rfl (by repeat (first | exact (Parts.nil : Parts _ _ [] _) | (show Parts _ _ ((_, _) :: _) _; apply Parts.one; (· first | exact (rfl : _ = Ty.clo _ _) | exact (rfl : _ = Ty.str _)); (· exact rfl)))) (by exact (rfl : _ = some [_, _])) ?_
    refine r_load_ppN rfl rfl rfl (by exact Nat.le_of_ble_eq_true rfl) ?_
    refine r_op (opT_callFd (fid := 85) (caps := [Ty.ptr 8 0, Ty.ptr 9 0]) (S := [8, 9]) (K := []) (mv := []) (F := [1000, 1001]) (px := 2 ≤ (allF f text).length) (ok := fun k => k < 2) (tgs := fun k => [(8, Cont.cells 27 (bokTys (resB f text k))), (9, Cont.cells 3 [Ty.int .i64 (k : Nat)])]) (tgx := [(8, Cont.cells 27 (bokTys (resB f text 2))), (9, Cont.cells 3 [Ty.int .i64 ((2 : Nat) : Int)])]) (sets := [(8, Cont.cells 27 (bokTys (resB f text (min 2 (allF f text).length)))), (9, Cont.cells 3 [Ty.int .i64 ((min 2 (allF f text).length : Nat) : Int)])]) (ρ := [(8, 1000), (9, 1001)]) (pre := fun k => [(1000, Cont.cells 27 (bokTys (resB f text k))), (1001, Cont.cells 3 [Ty.int .i64 (k : Nat)])]) (post := fun k => [(1000, Cont.cells 27 (bokTys (resB f text (k + 1)))), (1001, Cont.cells 3 [Ty.int .i64 ((k + 1 : Nat) : Int)])]) (argsF := fun k => [Ty.any, Ty.pp (rdrPl f (nth (allF f text) k).2), Ty.ptr 1000 0, Ty.ptr 1001 0]) (go := fun k => decide (k + 1 < 2)) (c_fill f hf text hl) rfl fin_hfv (fun _ => ⟨rfl, rfl⟩) (k_Restore1 f Rdr.new (by decide) (by have := hf.n2; omega) (by intro r h; cases h) Book.zero 0 (by decide)).ex (fun k h2 hk => by rw [List.length_map] at hk; have ho := all_ok hf hk; exact res_ctr hf ho h2) rfl rfl rfl rfl (by decide) (by intro t h; cases h) (by decide) (by decide) (allE_pub f _) (fun k tys hk => by obtain ⟨_, rfl⟩ := enc_at hk; exact cv_cons (cv_cons (cv_cons (cv_cons cv_nil (cv_ptr (by decide))) (cv_ptr (by decide))) (cv_pub rfl rfl)) cv_any) (fun k => pre_cons (a := 8) (by decide) rfl (cc_cells_eq (by decide) rfl rfl rfl) (pre_cons (a := 9) (by decide) rfl (cc_cells_eq (by decide) rfl rfl rfl) pre_nil)) (fun k _ _ => post_cons (a := 8) (b := 1000) (by decide) rfl (cc_cells_eq (by decide) rfl rfl rfl) (post_cons (a := 9) (b := 1001) (by decide) rfl (cc_cells_eq (by decide) rfl rfl rfl) post_nil)) (fun k h2 hg => res_px h2 (of_decide_eq_false hg)) (by decide) (fun k _ _ hg => of_decide_eq_true hg) (fun k h1 h2 hg => by have hg := of_decide_eq_false hg; rw [List.length_map] at h2; omega) (fun _ => rfl) rfl (allTags_cons rfl (Cont.sub_subs res_zero) (allTags_cons rfl (Cont.sub_subs ⟨Ty.sub_int rfl, trivial⟩) allTags_nil)) (by decide) (by intro t h; cases h) (by simp) rfl (fun hlt w M h x hx => by rw [List.length_map] at h hlt; rw [show min 2 (allF f text).length = (allF f text).length by omega] at hx; exact h x hx) (fun hge w M h x hx => by rw [show min 2 (allF f text).length = 2 by omega] at hx; exact h x hx)) ?_
    refine r_nil ?_
    refine i_then ?_
    refine t_seq ?_
    refine t_seq ?_
    refine t_region ?_
    refine r_load_ptr rfl rfl (by decide) rfl rfl rfl ?_
    refine r_nil ?_
    refine i_then ?_
    refine t_block ?_
    refine t_seq ?_
    refine t_region ?_
    refine r_bin rfl rfl rfl ?_
    refine asB rfl ?_
    refine r_nil ?_
    refine i_then ?_
    refine t_cond_dec rfl (fun hc2 => ?_) (fun hc2 => ?_)
    ·
      refine t_seq ?_
      refine t_region ?_
      refine r_build rfl rfl (by exact List.cons_ne_nil _ _) rfl (by repeat (exact (Parts.nil : Parts _ _ [] _))) (by exact (rfl : _ = some [_, _, _])) ?_
      refine r_storeN rfl rfl (by decide) rfl rfl rfl rfl rfl rfl ?_
      refine asI rfl ?_
      refine r_nil ?_
      refine i_then ?_
      refine t_ret ?_
      refine i_block_ret ?_
      refine i_then_ret ?_
      refine i_rcell2 rfl rfl rfl rfl rfl (by decide) rfl rfl rfl ?_ ?_
      all_goals skip
      all_goals (rw [rv_2 hc1 hc2]; first | exact ret_sub rfl rfl zero_bok | exact ret_refl rfl rfl)
    ·
      refine t_seq ?_
      refine t_region ?_
      refine r_bin rfl rfl rfl ?_
      refine asB rfl ?_
      refine r_nil ?_
      refine i_then ?_
      refine t_cond_dec rfl (fun hc3 => ?_) (fun hc3 => ?_)
      ·
        refine t_seq ?_
        refine t_region ?_
        refine r_load_ptrN rfl rfl (by decide) rfl rfl (by exact Nat.le_of_ble_eq_true rfl) ?_
        refine r_storeN rfl rfl (by decide) rfl rfl rfl rfl rfl rfl ?_
        refine asI rfl ?_
        refine r_nil ?_
        refine i_then ?_
        refine t_ret ?_
        refine i_block_ret ?_
        refine i_then_ret ?_
        refine i_rcell2 rfl rfl rfl rfl rfl (by decide) rfl rfl rfl ?_ ?_
        all_goals skip
        all_goals (rw [rv_3 hc1 hc2 hc3]; exact ret_refl rfl rfl)
      ·
        refine t_skip ?_
        refine i_block ?_
        refine i_then ?_
        refine t_seq ?_
        refine t_region ?_
        refine r_build rfl rfl (by exact List.cons_ne_nil _ _) rfl (by repeat (exact (Parts.nil : Parts _ _ [] _))) (by exact (rfl : _ = some [_, _, _])) ?_
        refine r_storeN rfl rfl (by decide) rfl rfl rfl rfl rfl rfl ?_
        refine asI rfl ?_
        refine r_nil ?_
        refine i_then ?_
        refine t_ret ?_
        refine i_rcell2 rfl rfl rfl rfl rfl (by decide) rfl rfl rfl ?_ ?_
        all_goals skip
        all_goals (rw [rv_4 hc1 hc2 hc3]; first | exact ret_sub rfl rfl zero_bok | exact ret_refl rfl rfl)
end Go.Proofs.YtjjndkenddigiaaGreatDoor

namespace Go.Proofs.YtjjndkenddigiaaGreatDoor
open Go Go.T Go.RowKit
def bTwo : Book := ⟨⟨[3, 2], 2⟩, [⟨[12, 5], false⟩, ⟨[100, 40], false⟩, ⟨[7, 0], true⟩]⟩
def tTwo : Byt := [32, 32, 49, 50, 124, 32, 53, 124, 107, 10, 32, 49, 48, 48, 124, 52, 48, 124, 114, 10, 61, 32, 32, 49, 49, 50, 124, 32, 32, 52, 53, 124, 10, 43, 32, 32, 49, 49, 50, 124, 32, 32, 52, 53, 124, 10, 45, 32, 32, 55, 124, 32, 48, 124, 106, 10, 61, 32, 32, 49, 49, 50, 124, 32, 32, 52, 53, 124, 10]
def tTwo1 : Byt := tTwo.take 8 ++ [106] ++ tTwo.drop 9
def tTwo2 : Byt := tTwo.take 34
def tTwo3 : Byt := [32, 32, 63, 50, 124, 32, 53, 124, 63, 10, 32, 49, 48, 48, 124, 52, 48, 124, 114, 10, 61, 32, 32, 49, 49, 50, 124, 32, 32, 52, 53, 124, 10, 43, 32, 32, 49, 49, 50, 124, 32, 32, 52, 53, 124, 10, 45, 32, 32, 55, 124, 32, 48, 124, 106, 10, 61, 32, 32, 49, 49, 50, 124, 32, 32, 52, 53, 124, 10]
def fOne : BForm := ⟨[1], 1⟩
def tOne : Byt := [32, 63, 124, 63, 10, 61, 32, 32, 63, 124, 10]
def lOne : List Byt := [[32, 48, 124, 97, 10, 61, 32, 32, 48, 124, 10], [32, 49, 124, 98, 10, 61, 32, 32, 49, 124, 10]]
theorem aw1 : printV bTwo = tTwo := by kernel_rfl
theorem aw1' : bokY bTwo = 0 := by kernel_rfl
theorem aw2 : parV bTwo.form tTwo1 = (Book.zero, 8, 11) := by kernel_rfl
theorem aw3 : parV bTwo.form tTwo2 = (Book.zero, 34, 11) := by kernel_rfl
theorem aw4 : tearV tTwo [2, 8] = (tTwo3, 0) := by kernel_rfl
theorem aw5 : allF bTwo.form tTwo3 = [(tTwo, (runR bTwo.form Rdr.new tTwo).2)] := by kernel_rfl
theorem aw5' : (runR bTwo.form Rdr.new tTwo).2.read = bTwo.rows := by kernel_rfl
theorem aw6 : (allF fOne tOne).length = 10 := by kernel_rfl
theorem aw7 : ((allF fOne tOne).take 2).map Prod.fst = lOne := by kernel_rfl
theorem aw8 : footV bTwo = [[112, 45], [112, 45]] := by kernel_rfl
end Go.Proofs.YtjjndkenddigiaaGreatDoor

namespace Go.Proofs.YtjjndkenddigiaaGreatDoor
open Go Go.T
set_option maxHeartbeats 4000000
theorem pubTy_row_eq {A : As} {α : Type} {E : El α} {T tg : Nat} {xs ys : List α} (h : xs = ys) : PubTy A tg (Ty.row E T tg xs) (Ty.sl E ys) := by subst h; exact pubTy_row
theorem row_eqB (a b : BRow) : ((a.struck == b.struck) && decide (a.nums = b.nums)) = decide (a = b) := by
  cases a; cases b; rw [Bool.eq_iff_iff]; simp [and_comm]
theorem sameB_eq (a b : Book) : ((decide (a.form.widths = b.form.widths) && decide (a.form.lines = b.form.lines)) && decide (a.rows = b.rows)) = decide (a = b) := by
  obtain ⟨⟨aw, al⟩, ar⟩ := a
  obtain ⟨⟨bw, bl⟩, br⟩ := b
  rw [Bool.eq_iff_iff]; simp [and_assoc]
def greatB (b : Book) : Bool := (decide ((b.form.widths.length : Int) > 8) || decide ((b.rows.length : Int) > 16)) || b.rows.any fun r => decide ((r.nums.length : Int) > 8)
theorem not_great {b : Book} (h : greatB b = false) : b.form.widths.length ≤ 8 ∧ b.rows.length ≤ 16 ∧ ∀ r ∈ b.rows, r.nums.length ≤ 8 := by
  unfold greatB at h
  simp only [Bool.or_eq_false_iff, decide_eq_false_iff_not, List.any_eq_false, decide_eq_true_eq] at h
  exact ⟨by omega, by omega, fun r hr => by have := h.2 r hr; omega⟩
theorem aw_res : resV bTwo.form tTwo3 = (bTwo, 0) := by
  have e1 : tornE bTwo.form tTwo3 = 0 := by kernel_rfl
  unfold resV resB
  rw [aw5, e1]
  have := aw5'
  rw [if_neg (by decide), if_neg (by decide), if_pos (by decide), if_neg (by decide)]
  show ((⟨bTwo.form, (runR bTwo.form Rdr.new tTwo).2.read⟩ : Book), (0 : Int)) = _
  rw [this]
theorem aw_cnt : cntV fOne tOne = (10, 0) := by
  have e1 : tornE fOne tOne = 0 := by kernel_rfl
  unfold cntV; rw [aw6, e1]; rfl
theorem aw_fil : filV fOne tOne = (lOne, 0) := by
  have e1 : tornE fOne tOne = 0 := by kernel_rfl
  unfold filV filL; rw [aw7, e1]; rfl
attribute [local irreducible] printV parV tearV cntV filV resV footV bokY
attribute [local irreducible] dInt dBool dSl dPp dPtr dAgg dTup dClo dAny dEx dStr dGd dCells dVec dVs dRow dOp nth Tri Into TOps Ctr bodyPost Exit.then Exit.inBlock Code.wp Code.wpIn dPa dArr dMp dMap CtrG keepPost iterPost bodyPostM roundQ
set_option maxRecDepth 100000 in
theorem c_same1 (a b : BRow) : Ctr Tryz.prog 77 [rowT a, rowT b] (Ty.bool (decide (a = b))) := by
  refine fn_intro Tryz.func77 rfl (by decide) Tryz.ntmps77 (by exact Nat.le_of_ble_eq_true rfl) fun w0 M0 => ?_
  refine t_seq ?_
  refine t_region ?_
  refine r_box_agg rfl ?_
  refine r_box_agg rfl ?_
  refine asB rfl ?_
  refine r_nil ?_
  refine i_then ?_
  refine t_seq ?_
  refine t_region ?_
  refine r_field_pp rfl rfl rfl rfl rfl (by decide) ?_
  refine r_load_pp rfl rfl rfl rfl ?_
  refine r_field_pp rfl rfl rfl rfl rfl (by decide) ?_
  refine r_load_pp rfl rfl rfl rfl ?_
  refine r_eql_B und4 rfl rfl ?_
  refine mvB rfl ?_
  apply r_guard (s := 10) rfl rfl rfl
  · intro hg; apply opT_of; (refine r_field_pp rfl rfl rfl rfl rfl (by decide) ?_); refine r_nil ?_; exact rfl
  · exact rfl
  · exact rfl
  apply r_guard (s := 10) rfl rfl rfl
  · intro hg; apply opT_strip (s := 11) rfl (by (rw [hg]; rfl)); apply opT_of; (refine r_load_pp rfl rfl rfl rfl ?_); refine r_nil ?_; exact rfl
  · exact rfl
  · exact rfl
  apply r_guard (s := 10) rfl rfl rfl
  · intro hg; apply opT_of; (refine r_field_pp rfl rfl rfl rfl rfl (by decide) ?_); refine r_nil ?_; exact rfl
  · exact rfl
  · exact rfl
  apply r_guard (s := 10) rfl rfl rfl
  · intro hg; apply opT_strip (s := 13) rfl (by (rw [hg]; rfl)); apply opT_of; (refine r_load_pp rfl rfl rfl rfl ?_); refine r_nil ?_; exact rfl
  · exact rfl
  · exact rfl
  apply r_guard (s := 10) rfl rfl rfl
  · intro hg; apply opT_strip (s := 12) rfl (by (rw [hg]; rfl)); apply opT_strip (s := 14) rfl (by (rw [hg]; rfl)); apply opT_of; (refine r_call (c_Eq_int _ _) rfl rfl rfl rfl rfl ?_); refine r_nil ?_; exact rfl
  · exact rfl
  · exact rfl
  refine r_and rfl rfl ?_
  refine asB rfl ?_
  refine r_nil ?_
  refine i_then ?_
  refine t_ret ?_
  refine i_rp1 rfl rfl ?_
  all_goals skip
  exact ret_eq rfl rfl (congrArg Ty.bool (row_eqB a b))
set_option maxRecDepth 100000 in
theorem c_EqualFunc (a b : List BRow) : Ctr Tryz.prog 76 [Ty.sl BRowE a, Ty.sl BRowE b, Ty.clo 77 []] (Ty.bool (decide (a = b))) := by
  refine fn_intro Tryz.func76 rfl (by decide) Tryz.ntmps76 (by exact Nat.le_of_ble_eq_true rfl) fun w0 M0 => ?_
  refine t_fact (s := 0) rfl rfl sl_len fun ha => ?_
  refine t_fact (s := 1) rfl rfl sl_len fun hb => ?_
  refine t_seq ?_
  refine t_region ?_
  refine asB rfl ?_
  refine r_nil ?_
  refine i_then ?_
  refine t_seq ?_
  refine t_seq ?_
  refine t_region ?_
  refine mvS rfl ?_
  refine r_len rfl rfl rfl ?_
  refine mvS rfl ?_
  refine r_len rfl rfl rfl ?_
  refine r_bin rfl rfl rfl ?_
  refine r_nil ?_
  refine i_then ?_
  refine t_cond_ndec rfl (fun hc1 => ?_) (fun hc1 => ?_)
  ·
    try (simp only [Classical.not_not] at hc1)
    refine t_seq ?_
    refine t_region ?_
    refine asB rfl ?_
    refine r_nil ?_
    refine i_then ?_
    refine t_ret ?_
    refine i_then_ret ?_
    refine i_rp1 rfl rfl ?_
    all_goals skip
    exact ret_eq rfl rfl (congrArg Ty.bool (by rw [eq_comm, decide_eq_false_iff_not]; intro e; subst e; exact hc1 rfl))
  ·
    try (simp only [Classical.not_not] at hc1)
    refine t_skip ?_
    refine i_then ?_
    refine t_seq ?_
    refine t_seq ?_
    refine t_region ?_
    refine mvS rfl ?_
    refine r_len rfl rfl rfl ?_
    refine mvI rfl ?_
    refine r_nil ?_
    refine i_then ?_
    refine t_block ?_
    refine t_loop (fun (k : {k : Nat // a.take k = b.take k}) => live [(1, Ty.sl BRowE b), (2, Ty.clo 77 []), (15, Ty.sl BRowE a), (16, Ty.int .i64 a.length), (17, Ty.int .i64 (k.1 : Nat))] []) (fun k => a.length - k.1) (⟨0, by simp⟩) ?_ fun k => ?_
    · (refine Ent.mk' ?_ ?_ <;> (repeat' (first | exact allSub_zero | exact allTags_nil | refine allSub_succ' ?_ (Ty.sub_any _) | refine allSub_succ' ?_ (Ty.sub_refl _))))
    ·
      have hlen : a.length = b.length := by omega
      refine t_seq ?_
      refine t_region ?_
      refine r_bin rfl rfl rfl ?_
      refine r_nil ?_
      refine i_then ?_
      refine t_seq ?_
      refine t_cond_dec rfl (fun hc2 => ?_) (fun hc2 => ?_)
      ·
        try (simp only [Classical.not_not] at hc2)
        refine t_skip ?_
        refine i_then ?_
        refine t_seq ?_
        refine t_block ?_
        refine t_seq ?_
        refine t_region ?_
        refine mvI rfl ?_
        refine r_index_slN rfl rfl rfl rfl rfl rfl (by omega) ?_
        refine r_load_ppN rfl rfl rfl (by exact Nat.le_of_ble_eq_true rfl) ?_
        refine r_alloc rfl (by exact List.cons_ne_nil _ _) rfl ?_
        refine asI rfl ?_
        refine r_storeN rfl rfl (by decide) rfl rfl rfl rfl rfl rfl ?_
        refine r_nil ?_
        refine i_then ?_
        refine t_seq ?_
        refine t_region ?_
        refine mvS rfl ?_
        refine mvI rfl ?_
        refine r_index_slN rfl rfl rfl rfl rfl rfl (by omega) ?_
        refine r_load_ppN rfl rfl rfl (by exact Nat.le_of_ble_eq_true rfl) ?_
        refine r_alloc rfl (by exact List.cons_ne_nil _ _) rfl ?_
        refine r_storeN rfl rfl (by decide) rfl rfl rfl rfl rfl rfl ?_
        refine r_nil ?_
        refine i_then ?_
        refine t_seq ?_
        refine t_region ?_
        refine mvF rfl ?_
        refine r_load_ptrN rfl rfl (by decide) rfl rfl (by exact Nat.le_of_ble_eq_true rfl) ?_
        refine r_load_ptrN rfl rfl (by decide) rfl rfl (by exact Nat.le_of_ble_eq_true rfl) ?_
        refine r_callv rfl (c_same1 (nth a k.1) (nth b k.1)) rfl rfl rfl rfl rfl ?_
        refine r_not rfl ?_
        refine r_nil ?_
        refine i_then ?_
        refine t_cond_ndec rfl (fun hc3 => ?_) (fun hc3 => ?_)
        ·
          try (simp only [Classical.not_not] at hc3)
          refine t_seq ?_
          refine t_region ?_
          refine asB rfl ?_
          refine r_nil ?_
          refine i_then ?_
          refine t_ret ?_
          refine i_block_ret ?_
          refine i_then_ret ?_
          refine i_then_ret ?_
          refine i_block_ret ?_
          refine i_then_ret ?_
          refine i_rp1 rfl rfl ?_
          all_goals skip
          exact ret_eq rfl rfl (congrArg Ty.bool (by rw [eq_comm, decide_eq_false_iff_not]; exact ne_of_nth (k := k.1) (hc3)))
        ·
          try (simp only [Classical.not_not] at hc3)
          refine t_skip ?_
          refine i_block ?_
          refine i_then ?_
          refine t_region ?_
          refine r_add rfl rfl (by omega) (by omega) ?_
          refine mvI rfl ?_
          refine r_nil ?_
          refine i_round (⟨k.1 + 1, by rw [take_nth (by omega), take_nth (by omega), k.2, hc3]⟩) ?_ (by show a.length - (k.1 + 1) < a.length - k.1; omega)
          (refine Ent.mk' ?_ ?_ <;> (repeat' (first | exact allSub_zero | exact allTags_nil | refine allSub_succ' ?_ (Ty.sub_any _) | refine allSub_succ' ?_ (Ty.sub_refl _))))
          all_goals skip
      ·
        try (simp only [Classical.not_not] at hc2)
        refine t_exit ?_
        refine i_then_exit ?_
        refine i_then_exit ?_
        refine i_block_exit rfl ?_
        refine i_then ?_
        refine t_seq ?_
        refine t_region ?_
        refine asB rfl ?_
        refine r_nil ?_
        refine i_then ?_
        refine t_ret ?_
        refine i_rp1 rfl rfl ?_
        all_goals skip
        exact ret_eq rfl rfl (congrArg Ty.bool (by rw [eq_comm, decide_eq_true_eq]; have := k.2; rwa [List.take_of_length_le (by omega), List.take_of_length_le (by omega)] at this))
set_option maxRecDepth 100000 in
theorem c_same (a b : Book) : Ctr Tryz.prog 19 [bokT a, bokT b] (Ty.bool (decide (a = b))) := by
  refine fn_intro Tryz.func19 rfl (by decide) Tryz.ntmps19 (by exact Nat.le_of_ble_eq_true rfl) fun w0 M0 => ?_
  refine t_seq ?_
  refine t_region ?_
  refine r_box_agg rfl ?_
  refine r_box_agg rfl ?_
  refine asB rfl ?_
  refine r_nil ?_
  refine i_then ?_
  refine t_seq ?_
  refine t_region ?_
  refine r_field_pp rfl rfl rfl rfl rfl (by decide) ?_
  refine r_field_pp rfl rfl rfl rfl rfl (by decide) ?_
  refine r_load_pp rfl rfl rfl rfl ?_
  refine r_field_pp rfl rfl rfl rfl rfl (by decide) ?_
  refine r_field_pp rfl rfl rfl rfl rfl (by decide) ?_
  refine r_load_pp rfl rfl rfl rfl ?_
  refine r_call (c_Eq_int _ _) rfl rfl rfl rfl rfl ?_
  refine mvB rfl ?_
  apply r_guard (s := 12) rfl rfl rfl
  · intro hg; apply opT_of; (refine r_field_pp rfl rfl rfl rfl rfl (by decide) ?_); refine r_nil ?_; exact rfl
  · exact rfl
  · exact rfl
  apply r_guard (s := 12) rfl rfl rfl
  · intro hg; apply opT_strip (s := 13) rfl (by (rw [hg]; rfl)); apply opT_of; (refine r_field_pp rfl rfl rfl rfl rfl (by decide) ?_); refine r_nil ?_; exact rfl
  · exact rfl
  · exact rfl
  apply r_guard (s := 12) rfl rfl rfl
  · intro hg; apply opT_strip (s := 14) rfl (by (rw [hg]; rfl)); apply opT_of; (refine r_load_pp rfl rfl rfl rfl ?_); refine r_nil ?_; exact rfl
  · exact rfl
  · exact rfl
  apply r_guard (s := 12) rfl rfl rfl
  · intro hg; apply opT_of; (refine r_field_pp rfl rfl rfl rfl rfl (by decide) ?_); refine r_nil ?_; exact rfl
  · exact rfl
  · exact rfl
  apply r_guard (s := 12) rfl rfl rfl
  · intro hg; apply opT_strip (s := 16) rfl (by (rw [hg]; rfl)); apply opT_of; (refine r_field_pp rfl rfl rfl rfl rfl (by decide) ?_); refine r_nil ?_; exact rfl
  · exact rfl
  · exact rfl
  apply r_guard (s := 12) rfl rfl rfl
  · intro hg; apply opT_strip (s := 17) rfl (by (rw [hg]; rfl)); apply opT_of; (refine r_load_pp rfl rfl rfl rfl ?_); refine r_nil ?_; exact rfl
  · exact rfl
  · exact rfl
  apply r_guard (s := 12) rfl rfl rfl
  · intro hg; apply opT_strip (s := 15) rfl (by (rw [hg]; rfl)); apply opT_strip (s := 18) rfl (by (rw [hg]; rfl)); apply opT_of; (refine r_bin rfl rfl rfl ?_); refine r_nil ?_; exact rfl
  · exact rfl
  · exact rfl
  refine r_and rfl rfl ?_
  refine mvB rfl ?_
  apply r_guard (s := 21) rfl rfl rfl
  · intro hg; apply opT_of; (refine r_field_pp rfl rfl rfl rfl rfl (by decide) ?_); refine r_nil ?_; exact rfl
  · exact rfl
  · exact rfl
  apply r_guard (s := 21) rfl rfl rfl
  · intro hg; apply opT_strip (s := 22) rfl (by (rw [hg]; rfl)); apply opT_of; (refine r_load_pp rfl rfl rfl rfl ?_); refine r_nil ?_; exact rfl
  · exact rfl
  · exact rfl
  apply r_guard (s := 21) rfl rfl rfl
  · intro hg; apply opT_of; (refine r_field_pp rfl rfl rfl rfl rfl (by decide) ?_); refine r_nil ?_; exact rfl
  · exact rfl
  · exact rfl
  apply r_guard (s := 21) rfl rfl rfl
  · intro hg; apply opT_strip (s := 24) rfl (by (rw [hg]; rfl)); apply opT_of; (refine r_load_pp rfl rfl rfl rfl ?_); refine r_nil ?_; exact rfl
  · exact rfl
  · exact rfl
  apply r_guard (s := 21) rfl rfl rfl
  · intro hg; apply opT_strip (s := 23) rfl (by (rw [hg]; rfl)); apply opT_strip (s := 25) rfl (by (rw [hg]; rfl)); apply opT_of; (refine r_call (c_EqualFunc a.rows b.rows) rfl rfl rfl rfl rfl ?_); refine r_nil ?_; exact rfl
  · exact rfl
  · exact rfl
  refine r_and rfl rfl ?_
  refine asB rfl ?_
  refine r_nil ?_
  refine i_then ?_
  refine t_ret ?_
  refine i_rp1 rfl rfl ?_
  all_goals skip
  all_goals exact ret_eq rfl rfl (congrArg Ty.bool (sameB_eq a b))
set_option maxRecDepth 100000 in
theorem c_great1 (r : BRow) : Ctr Tryz.prog 62 [rowT r] (Ty.bool (decide ((r.nums.length : Int) > 8))) := by
  refine fn_intro Tryz.func62 rfl (by decide) Tryz.ntmps62 (by exact Nat.le_of_ble_eq_true rfl) fun w0 M0 => ?_
  refine t_seq ?_
  refine t_region ?_
  refine r_box_agg rfl ?_
  refine asB rfl ?_
  refine r_nil ?_
  refine i_then ?_
  refine t_seq ?_
  refine t_region ?_
  refine r_field_pp rfl rfl rfl rfl rfl (by decide) ?_
  refine r_load_pp rfl rfl rfl rfl ?_
  refine r_len rfl rfl rfl ?_
  refine r_bin rfl rfl rfl ?_
  refine asB rfl ?_
  refine r_nil ?_
  refine i_then ?_
  refine t_ret ?_
  refine i_rp1 rfl rfl ?_
  all_goals exact ret_refl rfl rfl
  skip
set_option maxRecDepth 100000 in
theorem c_great (b : Book) : Ctr Tryz.prog 9 [bokT b] (Ty.bool (greatB b)) := by
  refine fn_intro Tryz.func9 rfl (by decide) Tryz.ntmps9 (by exact Nat.le_of_ble_eq_true rfl) fun w0 M0 => ?_
  refine t_seq ?_
  refine t_region ?_
  refine r_box_agg rfl ?_
  refine asB rfl ?_
  refine r_nil ?_
  refine i_then ?_
  refine t_seq ?_
  refine t_region ?_
  refine r_field_pp rfl rfl rfl rfl rfl (by decide) ?_
  refine r_field_pp rfl rfl rfl rfl rfl (by decide) ?_
  refine r_load_pp rfl rfl rfl rfl ?_
  refine r_len rfl rfl rfl ?_
  refine r_bin rfl rfl rfl ?_
  refine mvB rfl ?_
  apply r_guard (s := 8) rfl rfl rfl
  · intro hg; apply opT_of; (refine r_field_pp rfl rfl rfl rfl rfl (by decide) ?_); refine r_nil ?_; exact rfl
  · exact rfl
  · exact rfl
  apply r_guard (s := 8) rfl rfl rfl
  · intro hg; apply opT_strip (s := 9) rfl (by (rw [hg]; rfl)); apply opT_of; (refine r_load_pp rfl rfl rfl rfl ?_); refine r_nil ?_; exact rfl
  · exact rfl
  · exact rfl
  apply r_guard (s := 8) rfl rfl rfl
  · intro hg; apply opT_strip (s := 10) rfl (by (rw [hg]; rfl)); apply opT_of; (refine r_len rfl rfl rfl ?_); refine r_nil ?_; exact rfl
  · exact rfl
  · exact rfl
  apply r_guard (s := 8) rfl rfl rfl
  · intro hg; apply opT_strip (s := 11) rfl (by (rw [hg]; rfl)); apply opT_of; (refine r_bin rfl rfl rfl ?_); refine r_nil ?_; exact rfl
  · exact rfl
  · exact rfl
  refine r_or rfl rfl ?_
  refine mvB rfl ?_
  apply r_guard (s := 14) rfl rfl rfl
  · intro hg; apply opT_of; (refine r_field_pp rfl rfl rfl rfl rfl (by decide) ?_); refine r_nil ?_; exact rfl
  · exact rfl
  · exact rfl
  apply r_guard (s := 14) rfl rfl rfl
  · intro hg; apply opT_strip (s := 15) rfl (by (rw [hg]; rfl)); apply opT_of; (refine r_load_pp rfl rfl rfl rfl ?_); refine r_nil ?_; exact rfl
  · exact rfl
  · exact rfl
  apply r_guard (s := 14) rfl rfl rfl
  · intro hg; apply opT_strip (s := 16) rfl (by (rw [hg]; rfl)); apply opT_of; (refine r_call (c_ContainsFunc_row b.rows (Ty.clo 62 []) rfl (fun r => decide ((r.nums.length : Int) > 8)) rfl rfl fun x _ => cal_clo (c_great1 x) rfl rfl rfl rfl rfl rfl) rfl rfl rfl rfl rfl ?_); refine r_nil ?_; exact rfl
  · exact rfl
  · exact rfl
  refine r_or rfl rfl ?_
  refine asB rfl ?_
  refine r_nil ?_
  refine i_then ?_
  refine t_ret ?_
  refine i_rp1 rfl rfl ?_
  all_goals exact ret_refl rfl rfl
  all_goals trace_state
set_option maxRecDepth 100000 in
theorem c_Own (b : Book) (hw : b.form.widths.length ≤ 1000) (hl : b.rows.length ≤ 1000) (hn : ∀ r ∈ b.rows, r.nums.length ≤ 1000) : Ctr Tryz.prog 11 [bokT b] (bokT b) := by
  refine fn_intro Tryz.func11 rfl (by decide) Tryz.ntmps11 (by exact Nat.le_of_ble_eq_true rfl) fun w0 M0 => ?_
  refine t_seq ?_
  refine t_region ?_
  refine r_box_agg rfl ?_
  refine r_alloc rfl (by exact List.cons_ne_nil _ _) rfl ?_
  refine r_nil ?_
  refine i_then ?_
  refine t_seq ?_
  refine t_draw mixed rfl ?_
  refine r_field_pp rfl rfl rfl rfl rfl (by decide) ?_
  refine r_field_pp rfl rfl rfl rfl rfl (by decide) ?_
  refine r_load_pp rfl rfl rfl rfl ?_
  refine r_call (c_Dup_int b.form.widths hw) rfl rfl rfl rfl rfl ?_
  refine r_field_pp rfl rfl rfl rfl rfl (by decide) ?_
  refine r_field_pp rfl rfl rfl rfl rfl (by decide) ?_
  refine r_load_pp rfl rfl rfl rfl ?_
  refine r_build rfl rfl (by exact List.cons_ne_nil _ _) rfl (by repeat (first | exact (Parts.nil : Parts _ _ [] _) | (show Parts _ _ ((_, _) :: _) _; apply Parts.one; (· first | exact (rfl : _ = Ty.int _ _) | exact (rfl : _ = Ty.sl _ _)); (· exact rfl)))) (by exact (rfl : _ = some [_, _])) ?_
  refine r_build rfl rfl (by exact List.cons_ne_nil _ _) rfl (by repeat (first | exact (Parts.nil : Parts _ _ [] _) | (show Parts _ _ ((_, _) :: _) _; apply Parts.agg; (· exact (rfl : _ = Ty.agg _))))) (by exact (rfl : _ = some [_, _, _])) ?_
  refine r_alloc rfl (by exact List.cons_ne_nil _ _) rfl ?_
  refine r_storeN rfl rfl (by decide) rfl rfl rfl rfl rfl rfl ?_
  refine r_nil ?_
  refine ⟨by kernel_rfl, ?_⟩
  refine i_then ?_
  refine t_seq ?_
  refine t_seq ?_
  refine t_region ?_
  refine r_field_pp rfl rfl rfl rfl rfl (by decide) ?_
  refine r_load_pp rfl rfl rfl rfl ?_
  refine r_len rfl rfl rfl ?_
  refine mvI rfl ?_
  refine r_nil ?_
  refine i_then ?_
  refine t_block ?_
  refine t_loop (fun (k : {k : Nat // k ≤ b.rows.length}) => live [(1, Ty.pp (bokTys b)), (2, Ty.ptr 3 0), (3, Ty.ptr 4 0), (16, Ty.sl BRowE b.rows), (17, Ty.int .i64 b.rows.length), (18, Ty.int .i64 (k.1 : Nat))] [(3, Cont.cells 27 [Ty.ex (.slice none 0 0), Ty.int .i64 0, Ty.ex (.slice none 0 0)]), (4, Cont.cells 27 [Ty.sl I64 b.form.widths, Ty.int .i64 b.form.lines, Ty.row BRowE 66 32 (b.rows.take k.1)])]) (fun k => b.rows.length - k.1) (⟨0, by omega⟩) ?_ fun k => ?_
  · (refine Ent.mk' ?_ ?_ <;> (repeat' (first | exact allSub_zero | exact allTags_nil | exact subs_nil | refine allSub_succ' ?_ (Ty.sub_any _) | refine allSub_succ' ?_ (Ty.sub_refl _) | refine allTags_cons rfl (Cont.sub_refl _) ?_ | refine allTags_cons rfl (Cont.sub_subs ?_) ?_ | refine subs_cons ?_ (Ty.sub_refl _) | refine subs_cons ?_ Ty.nil_row)))
    all_goals trace_state
  ·
    have hk := k.2
    have htl : (b.rows.take k.1).length = k.1 := by rw [List.length_take]; omega
    refine t_seq ?_
    refine t_region ?_
    refine r_bin rfl rfl rfl ?_
    refine r_nil ?_
    refine i_then ?_
    refine t_seq ?_
    refine t_cond_dec rfl (fun hc1 => ?_) (fun hc1 => ?_)
    ·
      refine t_skip ?_
      refine i_then ?_
      refine t_seq ?_
      refine t_block ?_
      refine t_seq ?_
      refine t_region ?_
      refine r_index_slN rfl rfl rfl rfl rfl rfl (by omega) ?_
      refine r_load_ppN rfl rfl rfl (by exact Nat.le_of_ble_eq_true rfl) ?_
      refine r_alloc rfl (by exact List.cons_ne_nil _ _) rfl ?_
      refine r_storeN rfl rfl (by decide) rfl rfl rfl rfl rfl rfl ?_
      refine r_nil ?_
      refine i_then ?_
      have hnk := hn _ (nth_mem (xs := b.rows) (k := k.1) (by omega))
      refine t_draw mixed rfl ?_
      refine r_field_ptr rfl rfl rfl rfl rfl (by decide) ?_
      refine r_load_ptr rfl rfl (by decide) rfl rfl rfl ?_
      refine r_field_ptr rfl rfl rfl rfl rfl (by decide) ?_
      refine r_load_ptr rfl rfl (by decide) rfl rfl rfl ?_
      refine r_call (c_Dup_int (nth b.rows k.1).nums hnk) rfl rfl rfl rfl rfl ?_
      refine r_field_ptr rfl rfl rfl rfl rfl (by decide) ?_
      refine r_load_ptr rfl rfl (by decide) rfl rfl rfl ?_
      refine r_build rfl rfl (by exact List.cons_ne_nil _ _) rfl (by repeat (first | exact (Parts.nil : Parts _ _ [] _) | (show Parts _ _ ((_, _) :: _) _; apply Parts.one; (· first | exact (rfl : _ = Ty.sl _ _) | exact (rfl : _ = Ty.bool _)); (· exact rfl)))) (by exact (rfl : _ = some [_, _])) ?_
      refine r_buildSlice (E := BRowE) (xs := [nth b.rows k.1]) rfl rfl rfl rfl rfl (by decide) (by decide) (by repeat (first | exact (Parts.nil : Parts _ _ [] _) | (show Parts _ _ ((_, _) :: _) _; apply Parts.agg; (· exact (rfl : _ = Ty.agg _))))) (by exact rfl) rfl ?_
      refine r_append rfl rfl (by decide) rfl rfl rfl rfl rfl rfl (by decide) (by (simp <;> omega)) (by (simp <;> omega)) ?_
      refine r_field_ptr rfl rfl rfl rfl rfl (by decide) ?_
      refine r_store1 rfl rfl (by decide) rfl rfl (by exact (rfl : _ = Ty.row _ _ _ _)) rfl (by exact Nat.le_of_ble_eq_true rfl) rfl rfl (by exact rfl) ?_
      refine r_nil ?_
      refine ⟨by kernel_rfl, ?_⟩
      refine i_block ?_
      refine i_then ?_
      refine t_region ?_
      refine r_add rfl rfl (by omega) (by omega) ?_
      refine mvI rfl ?_
      refine r_nil ?_
      refine i_round (⟨k.1 + 1, by omega⟩) ?_ (by show b.rows.length - (k.1 + 1) < b.rows.length - k.1; omega)
      (refine Ent.mk' ?_ ?_ <;> (repeat' (first | exact allSub_zero | exact allTags_nil | exact subs_nil | refine allSub_succ' ?_ (Ty.sub_any _) | refine allSub_succ' ?_ (Ty.sub_refl _) | refine allTags_cons rfl (Cont.sub_refl _) ?_ | refine allTags_cons rfl (Cont.sub_subs ?_) ?_ | refine subs_cons ?_ (Ty.sub_refl _) | refine subs_cons ?_ ?_)))
      all_goals exact Ty.sub_row (take_nth (by omega)).symm
      all_goals trace_state
    ·
      refine t_exit ?_
      refine i_then_exit ?_
      refine i_then_exit ?_
      refine i_block_exit rfl ?_
      refine i_then ?_
      refine t_seq ?_
      refine t_pubC (tg := 32) [] [(4, Cont.cells 27 (bokTys b))] (by decide) rfl trivial ⟨pubC_cells rfl rfl ⟨pubTy_same rfl, pubTy_same rfl, pubTy_row_eq (List.take_of_length_le (by have := k.2; omega)), trivial⟩, trivial⟩ ?_
      refine t_region ?_
      refine r_load_ptrN rfl rfl (by decide) rfl rfl (by exact Nat.le_of_ble_eq_true rfl) ?_
      refine r_storeN rfl rfl (by decide) rfl rfl rfl rfl rfl rfl ?_
      refine r_nil ?_
      refine i_then ?_
      refine t_ret ?_
      refine i_rcell rfl rfl rfl rfl (by decide) rfl rfl rfl ?_
      all_goals exact ret_refl rfl rfl
set_option maxRecDepth 100000 in
theorem c_theirs (b : Book) (hl : b.rows.length ≤ 1000) : Ctr Tryz.prog 12 [bokT b] (bokT b) := by
  refine fn_intro Tryz.func12 rfl (by decide) Tryz.ntmps12 (by exact Nat.le_of_ble_eq_true rfl) fun w0 M0 => ?_
  refine t_seq ?_
  refine t_region ?_
  refine r_box_agg rfl ?_
  refine r_alloc rfl (by exact List.cons_ne_nil _ _) rfl ?_
  refine r_nil ?_
  refine i_then ?_
  refine t_seq ?_
  refine t_region ?_
  refine r_field_pp rfl rfl rfl rfl rfl (by decide) ?_
  refine r_load_ppN rfl rfl rfl (by exact Nat.le_of_ble_eq_true rfl) ?_
  refine r_build rfl rfl (by exact List.cons_ne_nil _ _) rfl (by repeat (first | exact (Parts.nil : Parts _ _ [] _) | (show Parts _ _ ((_, _) :: _) _; apply Parts.agg; (· exact (rfl : _ = Ty.agg _))))) (by exact (rfl : _ = some [_, _, _])) ?_
  refine r_alloc rfl (by exact List.cons_ne_nil _ _) rfl ?_
  refine r_storeN rfl rfl (by decide) rfl rfl rfl rfl rfl rfl ?_
  refine r_nil ?_
  refine i_then ?_
  refine t_seq ?_
  refine t_seq ?_
  refine t_region ?_
  refine r_field_pp rfl rfl rfl rfl rfl (by decide) ?_
  refine r_load_pp rfl rfl rfl rfl ?_
  refine r_len rfl rfl rfl ?_
  refine mvI rfl ?_
  refine r_nil ?_
  refine i_then ?_
  refine t_block ?_
  refine t_loop (fun (k : {k : Nat // k ≤ b.rows.length}) => live [(1, Ty.pp (bokTys b)), (2, Ty.ptr 3 0), (3, Ty.ptr 4 0), (10, Ty.sl BRowE b.rows), (11, Ty.int .i64 b.rows.length), (12, Ty.int .i64 (k.1 : Nat))] [(3, Cont.cells 34 [Ty.ex (.slice none 0 0), Ty.int .i64 0, Ty.ex (.slice none 0 0)]), (4, Cont.cells 34 [Ty.sl I64 b.form.widths, Ty.int .i64 b.form.lines, Ty.row BRowE 67 21 (b.rows.take k.1)])]) (fun k => b.rows.length - k.1) (⟨0, by omega⟩) ?_ fun k => ?_
  · (refine Ent.mk' ?_ ?_ <;> (repeat' (first | exact allSub_zero | exact allTags_nil | exact subs_nil | refine allSub_succ' ?_ (Ty.sub_any _) | refine allSub_succ' ?_ (Ty.sub_refl _) | refine allTags_cons rfl (Cont.sub_refl _) ?_ | refine allTags_cons rfl (Cont.sub_subs ?_) ?_ | refine subs_cons ?_ (Ty.sub_refl _) | refine subs_cons ?_ Ty.nil_row)))
    all_goals trace_state
  ·
    have hk := k.2
    have htl : (b.rows.take k.1).length = k.1 := by rw [List.length_take]; omega
    refine t_seq ?_
    refine t_region ?_
    refine r_bin rfl rfl rfl ?_
    refine r_nil ?_
    refine i_then ?_
    refine t_seq ?_
    refine t_cond_dec rfl (fun hc1 => ?_) (fun hc1 => ?_)
    ·
      refine t_skip ?_
      refine i_then ?_
      refine t_seq ?_
      refine t_block ?_
      refine t_seq ?_
      refine t_region ?_
      refine r_index_slN rfl rfl rfl rfl rfl rfl (by omega) ?_
      refine r_load_ppN rfl rfl rfl (by exact Nat.le_of_ble_eq_true rfl) ?_
      refine r_alloc rfl (by exact List.cons_ne_nil _ _) rfl ?_
      refine r_storeN rfl rfl (by decide) rfl rfl rfl rfl rfl rfl ?_
      refine r_nil ?_
      refine i_then ?_
      refine t_region ?_
      refine r_field_ptr rfl rfl rfl rfl rfl (by decide) ?_
      refine r_load_ptr rfl rfl (by decide) rfl rfl rfl ?_
      refine r_load_ptrN rfl rfl (by decide) rfl rfl (by exact Nat.le_of_ble_eq_true rfl) ?_
      refine r_buildSlice (E := BRowE) (xs := [nth b.rows k.1]) rfl rfl rfl rfl rfl (by decide) (by decide) (by repeat (first | exact (Parts.nil : Parts _ _ [] _) | (show Parts _ _ ((_, _) :: _) _; apply Parts.agg; (· exact (rfl : _ = Ty.agg _))))) (by exact rfl) rfl ?_
      refine r_append rfl rfl (by decide) rfl rfl rfl rfl rfl rfl (by decide) (by (simp <;> omega)) (by (simp <;> omega)) ?_
      refine r_field_ptr rfl rfl rfl rfl rfl (by decide) ?_
      refine r_store1 rfl rfl (by decide) rfl rfl (by exact (rfl : _ = Ty.row _ _ _ _)) rfl (by exact Nat.le_of_ble_eq_true rfl) rfl rfl (by exact rfl) ?_
      refine r_nil ?_
      refine i_block ?_
      refine i_then ?_
      refine t_region ?_
      refine r_add rfl rfl (by omega) (by omega) ?_
      refine mvI rfl ?_
      refine r_nil ?_
      refine i_round (⟨k.1 + 1, by omega⟩) ?_ (by show b.rows.length - (k.1 + 1) < b.rows.length - k.1; omega)
      (refine Ent.mk' ?_ ?_ <;> (repeat' (first | exact allSub_zero | exact allTags_nil | exact subs_nil | refine allSub_succ' ?_ (Ty.sub_any _) | refine allSub_succ' ?_ (Ty.sub_refl _) | refine allTags_cons rfl (Cont.sub_refl _) ?_ | refine allTags_cons rfl (Cont.sub_subs ?_) ?_ | refine subs_cons ?_ (Ty.sub_refl _) | refine subs_cons ?_ ?_)))
      all_goals exact Ty.sub_row (take_nth (by omega)).symm
      all_goals trace_state
    ·
      refine t_exit ?_
      refine i_then_exit ?_
      refine i_then_exit ?_
      refine i_block_exit rfl ?_
      refine i_then ?_
      refine t_seq ?_
      refine t_pubC (tg := 21) [] [(4, Cont.cells 34 (bokTys b))] (by decide) rfl trivial ⟨pubC_cells rfl rfl ⟨pubTy_same rfl, pubTy_same rfl, pubTy_row_eq (List.take_of_length_le (by have := k.2; omega)), trivial⟩, trivial⟩ ?_
      refine t_region ?_
      refine r_load_ptrN rfl rfl (by decide) rfl rfl (by exact Nat.le_of_ble_eq_true rfl) ?_
      refine r_storeN rfl rfl (by decide) rfl rfl rfl rfl rfl rfl ?_
      refine r_nil ?_
      refine i_then ?_
      refine t_ret ?_
      refine i_rcell rfl rfl rfl rfl (by decide) rfl rfl rfl ?_
      all_goals exact ret_refl rfl rfl
set_option maxRecDepth 100000 in
theorem c_Two : Ctr Tryz.prog 50 [] (Ty.tup [bokT bTwo, Ty.str (bs tTwo)]) := by
  refine fn_intro Tryz.func50 rfl (by decide) Tryz.ntmps50 (by exact Nat.le_of_ble_eq_true rfl) fun w0 M0 => ?_
  refine t_seq ?_
  refine t_region ?_
  refine r_alloc rfl (by exact List.cons_ne_nil _ _) rfl ?_
  refine asS' rfl ?_
  refine r_nil ?_
  refine i_then ?_
  refine t_seq ?_
  refine t_region ?_
  refine r_buildSlice (E := I64) (xs := [_, _]) rfl rfl rfl rfl rfl (by decide) (by decide) (by repeat (first | exact (Parts.nil : Parts _ _ [] _) | (show Parts _ _ ((_, _) :: _) _; apply Parts.one; (· exact (rfl : _ = Ty.int _ _)); (· exact rfl)))) (by exact rfl) rfl ?_
  refine r_build rfl rfl (by exact List.cons_ne_nil _ _) rfl (by repeat (first | exact (Parts.nil : Parts _ _ [] _) | (show Parts _ _ ((_, _) :: _) _; apply Parts.one; (· first | exact (rfl : _ = Ty.int _ _) | exact (rfl : _ = Ty.sl _ _)); (· exact rfl)))) (by exact (rfl : _ = some [_, _])) ?_
  refine r_buildSlice (E := I64) (xs := [_, _]) rfl rfl rfl rfl rfl (by decide) (by decide) (by repeat (first | exact (Parts.nil : Parts _ _ [] _) | (show Parts _ _ ((_, _) :: _) _; apply Parts.one; (· exact (rfl : _ = Ty.int _ _)); (· exact rfl)))) (by exact rfl) rfl ?_
  refine r_build rfl rfl (by exact List.cons_ne_nil _ _) rfl (by repeat (first | exact (Parts.nil : Parts _ _ [] _) | (show Parts _ _ ((_, _) :: _) _; apply Parts.one; (· exact (rfl : _ = Ty.sl _ _)); (· exact rfl)))) (by exact (rfl : _ = some [_, _])) ?_
  refine r_buildSlice (E := I64) (xs := [_, _]) rfl rfl rfl rfl rfl (by decide) (by decide) (by repeat (first | exact (Parts.nil : Parts _ _ [] _) | (show Parts _ _ ((_, _) :: _) _; apply Parts.one; (· exact (rfl : _ = Ty.int _ _)); (· exact rfl)))) (by exact rfl) rfl ?_
  refine r_build rfl rfl (by exact List.cons_ne_nil _ _) rfl (by repeat (first | exact (Parts.nil : Parts _ _ [] _) | (show Parts _ _ ((_, _) :: _) _; apply Parts.one; (· exact (rfl : _ = Ty.sl _ _)); (· exact rfl)))) (by exact (rfl : _ = some [_, _])) ?_
  refine r_buildSlice (E := I64) (xs := [_, _]) rfl rfl rfl rfl rfl (by decide) (by decide) (by repeat (first | exact (Parts.nil : Parts _ _ [] _) | (show Parts _ _ ((_, _) :: _) _; apply Parts.one; (· exact (rfl : _ = Ty.int _ _)); (· exact rfl)))) (by exact rfl) rfl ?_
  refine r_build rfl rfl (by exact List.cons_ne_nil _ _) rfl (by repeat (first | exact (Parts.nil : Parts _ _ [] _) | (show Parts _ _ ((_, _) :: _) _; apply Parts.one; (· first | exact (rfl : _ = Ty.sl _ _) | exact (rfl : _ = Ty.bool _)); (· exact rfl)))) (by exact (rfl : _ = some [_, _])) ?_
  refine r_buildSlice (E := BRowE) (xs := bTwo.rows) rfl rfl rfl rfl rfl (by decide) (by decide) (by repeat (first | exact (Parts.nil : Parts _ _ [] _) | (show Parts _ _ ((_, _) :: _) _; apply Parts.agg; (· exact (rfl : _ = Ty.agg _))))) (by exact rfl) rfl ?_
  refine r_build rfl rfl (by exact List.cons_ne_nil _ _) rfl (by repeat (first | exact (Parts.nil : Parts _ _ [] _) | (show Parts _ _ ((_, _) :: _) _; apply Parts.one; (· exact (rfl : _ = Ty.sl _ _)); (· exact rfl)) | (show Parts _ _ ((_, _) :: _) _; apply Parts.agg; (· exact (rfl : _ = Ty.agg _))))) (by exact (rfl : _ = some [_, _, _])) ?_
  refine r_storeN rfl rfl (by decide) rfl rfl rfl rfl rfl rfl ?_
  refine asS' rfl ?_
  refine r_nil ?_
  refine i_then ?_
  refine t_ret ?_
  refine i_rcell2 rfl rfl rfl rfl rfl (by decide) rfl rfl rfl ?_ ?_
  all_goals exact ret_refl rfl rfl
  all_goals trace_state
theorem two_rng : ∀ r ∈ bTwo.rows, Rng r.nums := by unfold Rng; decide
theorem c_aw1 : Ctr Tryz.prog 16 [bokT bTwo] (Ty.tup [Ty.str (bs tTwo), Ty.int .i64 0]) := by
  have h := c_Print bTwo two_rng
  rwa [aw1, aw1'] at h
theorem c_aw2 : Ctr Tryz.prog 63 [frmT bTwo.form, Ty.str (bs tTwo1)] (Ty.tup [bokT Book.zero, Ty.int .i64 8, Ty.int .i64 11]) := by
  have h := c_Parse bTwo.form tTwo1 (by decide)
  unfold parT at h
  rwa [aw2] at h
theorem c_aw3 : Ctr Tryz.prog 63 [frmT bTwo.form, Ty.str (bs tTwo2)] (Ty.tup [bokT Book.zero, Ty.int .i64 34, Ty.int .i64 11]) := by
  have h := c_Parse bTwo.form tTwo2 (by decide)
  unfold parT at h
  rwa [aw3] at h
theorem c_aw4 : Ctr Tryz.prog 64 [Ty.str (bs tTwo), Ty.sl I64 [2, 8]] (Ty.tup [Ty.str (bs tTwo3), Ty.int .i64 0]) := by
  have h := c_Tear tTwo [2, 8] (by decide)
  rwa [aw4] at h
theorem c_aw5 : Ctr Tryz.prog 29 [frmT bTwo.form, Ty.str (bs tTwo3)] (Ty.tup [bokT bTwo, Ty.int .i64 0]) := by
  have h := c_Restore bTwo.form tTwo3
  rwa [aw_res] at h
theorem c_aw6 : Ctr Tryz.prog 27 [frmT fOne, Ty.str (bs tOne)] (Ty.tup [Ty.int .i64 10, Ty.int .i64 0]) := by
  have h := c_Count fOne tOne
  rwa [aw_cnt] at h
theorem c_aw7 : Ctr Tryz.prog 28 [frmT fOne, Ty.str (bs tOne)] (Ty.tup [Ty.sl StrE lOne, Ty.int .i64 0]) := by
  have h := c_Fillings fOne tOne
  rwa [aw_fil] at h
theorem c_aw8 : Ctr Tryz.prog 17 [bokT bTwo] (Ty.tup [Ty.sl RowE [[112, 45], [112, 45]], Ty.int .i64 0]) := by
  have h := c_Foots bTwo two_rng
  rwa [aw8, aw1'] at h
set_option maxRecDepth 100000 in
theorem c_awake : Ctr Tryz.prog 10 [] (Ty.bool true) := by
  refine fn_intro Tryz.func10 rfl (by decide) Tryz.ntmps10 (by exact Nat.le_of_ble_eq_true rfl) fun w0 M0 => ?_
  refine t_seq ?_
  refine t_region ?_
  refine asB rfl ?_
  refine r_nil ?_
  refine i_then ?_
  refine t_seq ?_
  refine t_region ?_
  refine r_call (c_Two) rfl rfl rfl rfl rfl ?_
  refine mvT rfl ?_
  refine r_extract rfl rfl ?_
  refine r_extract rfl rfl ?_
  refine r_alloc rfl (by exact List.cons_ne_nil _ _) rfl ?_
  refine r_storeN rfl rfl (by decide) rfl rfl rfl rfl rfl rfl ?_
  refine asS' rfl ?_
  refine r_nil ?_
  refine i_then ?_
  refine t_seq ?_
  refine t_pub (tg := 2) [(1, Ty.pp (bokTys bTwo))] (by decide) rfl ⟨pub_ptr (T := 27) (tg := 2) (off := 0) (l := bokTys bTwo) rfl rfl rfl (by decide), trivial⟩ ?_
  refine t_region ?_
  refine r_load_ppN rfl rfl rfl (by exact Nat.le_of_ble_eq_true rfl) ?_
  refine r_call c_aw1 rfl rfl rfl rfl rfl ?_
  refine mvT rfl ?_
  refine r_extract rfl rfl ?_
  refine r_extract rfl rfl ?_
  refine asS' rfl ?_
  refine asI rfl ?_
  refine r_nil ?_
  refine i_then ?_
  refine t_seq ?_
  refine t_forget (B := live [(1, Ty.pp (bokTys bTwo)), (2, Ty.str (bs tTwo)), (3, Ty.str (bs tTwo)), (4, Ty.int .i64 0)] []) ?_ ?_
  · (refine Ent.mk' ?_ ?_ <;> (repeat' (first | exact allSub_zero | exact allTags_nil | refine allSub_succ' ?_ (Ty.sub_any _) | refine allSub_succ' ?_ (Ty.sub_refl _))))
  refine t_draw mixed rfl ?_
  refine r_field_pp rfl rfl rfl rfl rfl (by decide) ?_
  refine r_load_ppN rfl rfl rfl (by exact Nat.le_of_ble_eq_true rfl) ?_
  refine mvS' rfl ?_
  refine r_cutS_hi (hi := 8) rfl rfl rfl rfl (by decide) ?_
  refine r_catS rfl rfl (by decide) ?_
  refine mvS' rfl ?_
  refine r_cutS_lo (lo := 9) rfl rfl rfl rfl (by decide) ?_
  refine r_catS rfl rfl (by decide) ?_
  refine r_call c_aw2 rfl rfl rfl rfl rfl ?_
  refine mvT rfl ?_
  refine r_extract rfl rfl ?_
  refine r_extract rfl rfl ?_
  refine r_extract rfl rfl ?_
  refine r_alloc rfl (by exact List.cons_ne_nil _ _) rfl ?_
  refine r_storeN rfl rfl (by decide) rfl rfl rfl rfl rfl rfl ?_
  refine asI rfl ?_
  refine asI rfl ?_
  refine r_nil ?_
  refine ⟨by kernel_rfl, ?_⟩
  refine i_then ?_
  refine t_seq ?_
  refine t_forget (B := live [(1, Ty.pp (bokTys bTwo)), (2, Ty.str (bs tTwo)), (3, Ty.str (bs tTwo)), (4, Ty.int .i64 0), (6, Ty.int .i64 8), (7, Ty.int .i64 11)] []) ?_ ?_
  · (refine Ent.mk' ?_ ?_ <;> (repeat' (first | exact allSub_zero | exact allTags_nil | refine allSub_succ' ?_ (Ty.sub_any _) | refine allSub_succ' ?_ (Ty.sub_refl _))))
  refine t_draw mixed rfl ?_
  refine r_field_pp rfl rfl rfl rfl rfl (by decide) ?_
  refine r_load_ppN rfl rfl rfl (by exact Nat.le_of_ble_eq_true rfl) ?_
  refine mvS' rfl ?_
  refine r_cutS_hi (hi := 34) rfl rfl rfl rfl (by decide) ?_
  refine r_call c_aw3 rfl rfl rfl rfl rfl ?_
  refine mvT rfl ?_
  refine r_extract rfl rfl ?_
  refine r_extract rfl rfl ?_
  refine r_extract rfl rfl ?_
  refine r_alloc rfl (by exact List.cons_ne_nil _ _) rfl ?_
  refine r_storeN rfl rfl (by decide) rfl rfl rfl rfl rfl rfl ?_
  refine asI rfl ?_
  refine asI rfl ?_
  refine r_nil ?_
  refine ⟨by kernel_rfl, ?_⟩
  refine i_then ?_
  refine t_seq ?_
  refine t_forget (B := live [(1, Ty.pp (bokTys bTwo)), (2, Ty.str (bs tTwo)), (3, Ty.str (bs tTwo)), (4, Ty.int .i64 0), (6, Ty.int .i64 8), (7, Ty.int .i64 11), (9, Ty.int .i64 34), (10, Ty.int .i64 11)] []) ?_ ?_
  · (refine Ent.mk' ?_ ?_ <;> (repeat' (first | exact allSub_zero | exact allTags_nil | refine allSub_succ' ?_ (Ty.sub_any _) | refine allSub_succ' ?_ (Ty.sub_refl _))))
  refine t_region ?_
  refine mvS' rfl ?_
  refine r_buildSlice (E := I64) (xs := [_, _]) rfl rfl rfl rfl rfl (by decide) (by decide) (by repeat (first | exact (Parts.nil : Parts _ _ [] _) | (show Parts _ _ ((_, _) :: _) _; apply Parts.one; (· exact (rfl : _ = Ty.int _ _)); (· exact rfl)))) (by exact rfl) rfl ?_
  refine r_call c_aw4 rfl rfl rfl rfl rfl ?_
  refine mvT rfl ?_
  refine r_extract rfl rfl ?_
  refine r_extract rfl rfl ?_
  refine asS' rfl ?_
  refine asI rfl ?_
  refine r_nil ?_
  refine i_then ?_
  refine t_seq ?_
  refine t_region ?_
  refine r_field_pp rfl rfl rfl rfl rfl (by decide) ?_
  refine r_load_ppN rfl rfl rfl (by exact Nat.le_of_ble_eq_true rfl) ?_
  refine mvS' rfl ?_
  refine r_call c_aw5 rfl rfl rfl rfl rfl ?_
  refine mvT rfl ?_
  refine r_extract rfl rfl ?_
  refine r_extract rfl rfl ?_
  refine r_alloc rfl (by exact List.cons_ne_nil _ _) rfl ?_
  refine r_storeN rfl rfl (by decide) rfl rfl rfl rfl rfl rfl ?_
  refine asI rfl ?_
  refine r_nil ?_
  refine i_then ?_
  refine t_seq ?_
  refine t_forget (B := live [(1, Ty.pp (bokTys bTwo)), (2, Ty.str (bs tTwo)), (3, Ty.str (bs tTwo)), (4, Ty.int .i64 0), (6, Ty.int .i64 8), (7, Ty.int .i64 11), (9, Ty.int .i64 34), (10, Ty.int .i64 11), (12, Ty.int .i64 0), (13, Ty.ptr 14 0), (14, Ty.int .i64 0)] [(14, Cont.cells 27 (bokTys bTwo))]) ?_ ?_
  · (refine Ent.mk' ?_ ?_ <;> (repeat' (first | exact allSub_zero | exact allTags_nil | refine allSub_succ' ?_ (Ty.sub_any _) | refine allSub_succ' ?_ (Ty.sub_refl _) | refine allTags_cons rfl (Cont.sub_refl _) ?_)))
  refine t_pub (tg := 14) [(13, Ty.pp (bokTys bTwo))] (by decide) rfl ⟨pub_ptr (T := 27) (tg := 14) (off := 0) (l := bokTys bTwo) rfl rfl rfl (by decide), trivial⟩ ?_
  refine t_region ?_
  refine r_buildSlice (E := I64) (xs := [_]) rfl rfl rfl rfl rfl (by decide) (by decide) (by repeat (first | exact (Parts.nil : Parts _ _ [] _) | (show Parts _ _ ((_, _) :: _) _; apply Parts.one; (· exact (rfl : _ = Ty.int _ _)); (· exact rfl)))) (by exact rfl) rfl ?_
  refine r_build rfl rfl (by exact List.cons_ne_nil _ _) rfl (by repeat (first | exact (Parts.nil : Parts _ _ [] _) | (show Parts _ _ ((_, _) :: _) _; apply Parts.one; (· first | exact (rfl : _ = Ty.int _ _) | exact (rfl : _ = Ty.sl _ _)); (· exact rfl)))) (by exact (rfl : _ = some [_, _])) ?_
  refine r_alloc rfl (by exact List.cons_ne_nil _ _) rfl ?_
  refine r_storeN rfl rfl (by decide) rfl rfl rfl rfl rfl rfl ?_
  refine r_nil ?_
  refine i_then ?_
  refine t_seq ?_
  refine t_region ?_
  refine r_load_ptrN rfl rfl (by decide) rfl rfl (by exact Nat.le_of_ble_eq_true rfl) ?_
  refine r_call c_aw6 rfl rfl rfl rfl rfl ?_
  refine mvT rfl ?_
  refine r_extract rfl rfl ?_
  refine r_extract rfl rfl ?_
  refine asI rfl ?_
  refine asI rfl ?_
  refine r_nil ?_
  refine i_then ?_
  refine t_seq ?_
  refine t_region ?_
  refine r_load_ptrN rfl rfl (by decide) rfl rfl (by exact Nat.le_of_ble_eq_true rfl) ?_
  refine r_call c_aw7 rfl rfl rfl rfl rfl ?_
  refine mvT rfl ?_
  refine r_extract rfl rfl ?_
  refine r_extract rfl rfl ?_
  refine asS rfl ?_
  refine asI rfl ?_
  refine r_nil ?_
  refine i_then ?_
  refine t_seq ?_
  refine t_region ?_
  refine r_load_ppN rfl rfl rfl (by exact Nat.le_of_ble_eq_true rfl) ?_
  refine r_call c_aw8 rfl rfl rfl rfl rfl ?_
  refine mvT rfl ?_
  refine r_extract rfl rfl ?_
  refine r_extract rfl rfl ?_
  refine asS rfl ?_
  refine asI rfl ?_
  refine r_nil ?_
  refine i_then ?_
  refine t_seq ?_
  refine t_forget (B := live [(1, Ty.pp (bokTys bTwo)), (2, Ty.str (bs tTwo)), (3, Ty.str (bs tTwo)), (4, Ty.int .i64 0), (6, Ty.int .i64 8), (7, Ty.int .i64 11), (9, Ty.int .i64 34), (10, Ty.int .i64 11), (12, Ty.int .i64 0), (13, Ty.pp (bokTys bTwo)), (14, Ty.int .i64 0), (16, Ty.int .i64 10), (17, Ty.int .i64 0), (18, Ty.sl StrE lOne), (19, Ty.int .i64 0), (20, Ty.sl RowE [[112, 45], [112, 45]]), (21, Ty.int .i64 0)] []) ?_ ?_
  · (refine Ent.mk' ?_ ?_ <;> (repeat' (first | exact allSub_zero | exact allTags_nil | refine allSub_succ' ?_ (Ty.sub_any _) | refine allSub_succ' ?_ (Ty.sub_refl _))))
  refine t_region ?_
  refine mvI rfl ?_
  refine r_bin rfl rfl rfl ?_
  refine mvB rfl ?_
  apply r_guard (s := 85) rfl rfl rfl
  · intro hg; apply opT_of; (refine mvI rfl ?_); refine r_nil ?_; exact rfl
  · exact rfl
  · exact rfl
  apply r_guard (s := 85) rfl rfl rfl
  · intro hg; apply opT_strip (s := 86) rfl (by exact hg); apply opT_of; (refine r_bin rfl rfl rfl ?_); refine r_nil ?_; exact rfl
  · exact rfl
  · exact rfl
  refine r_and rfl rfl ?_
  refine mvB rfl ?_
  apply r_guard (s := 89) rfl rfl rfl
  · intro hg; apply opT_of; (refine mvI rfl ?_); refine r_nil ?_; exact rfl
  · exact rfl
  · exact rfl
  apply r_guard (s := 89) rfl rfl rfl
  · intro hg; apply opT_strip (s := 90) rfl (by exact hg); apply opT_of; (refine r_bin rfl rfl rfl ?_); refine r_nil ?_; exact rfl
  · exact rfl
  · exact rfl
  refine r_and rfl rfl ?_
  refine mvB rfl ?_
  apply r_guard (s := 93) rfl rfl rfl
  · intro hg; apply opT_of; (refine mvI rfl ?_); refine r_nil ?_; exact rfl
  · exact rfl
  · exact rfl
  apply r_guard (s := 93) rfl rfl rfl
  · intro hg; apply opT_strip (s := 94) rfl (by exact hg); apply opT_of; (refine r_bin rfl rfl rfl ?_); refine r_nil ?_; exact rfl
  · exact rfl
  · exact rfl
  refine r_and rfl rfl ?_
  refine mvB rfl ?_
  apply r_guard (s := 97) rfl rfl rfl
  · intro hg; apply opT_of; (refine mvI rfl ?_); refine r_nil ?_; exact rfl
  · exact rfl
  · exact rfl
  apply r_guard (s := 97) rfl rfl rfl
  · intro hg; apply opT_strip (s := 98) rfl (by exact hg); apply opT_of; (refine r_bin rfl rfl rfl ?_); refine r_nil ?_; exact rfl
  · exact rfl
  · exact rfl
  refine r_and rfl rfl ?_
  refine mvB rfl ?_
  apply r_guard (s := 101) rfl rfl rfl
  · intro hg; apply opT_of; (refine mvI rfl ?_); refine r_nil ?_; exact rfl
  · exact rfl
  · exact rfl
  apply r_guard (s := 101) rfl rfl rfl
  · intro hg; apply opT_strip (s := 102) rfl (by exact hg); apply opT_of; (refine r_bin rfl rfl rfl ?_); refine r_nil ?_; exact rfl
  · exact rfl
  · exact rfl
  refine r_and rfl rfl ?_
  refine mvB rfl ?_
  apply r_guard (s := 105) rfl rfl rfl
  · intro hg; apply opT_of; (refine mvI rfl ?_); refine r_nil ?_; exact rfl
  · exact rfl
  · exact rfl
  apply r_guard (s := 105) rfl rfl rfl
  · intro hg; apply opT_strip (s := 106) rfl (by exact hg); apply opT_of; (refine r_bin rfl rfl rfl ?_); refine r_nil ?_; exact rfl
  · exact rfl
  · exact rfl
  refine r_and rfl rfl ?_
  refine mvB rfl ?_
  apply r_guard (s := 109) rfl rfl rfl
  · intro hg; apply opT_of; (refine mvI rfl ?_); refine r_nil ?_; exact rfl
  · exact rfl
  · exact rfl
  apply r_guard (s := 109) rfl rfl rfl
  · intro hg; apply opT_strip (s := 110) rfl (by exact hg); apply opT_of; (refine r_bin rfl rfl rfl ?_); refine r_nil ?_; exact rfl
  · exact rfl
  · exact rfl
  refine r_and rfl rfl ?_
  refine mvB rfl ?_
  apply r_guard (s := 113) rfl rfl rfl
  · intro hg; apply opT_of; (refine mvS' rfl ?_); refine r_nil ?_; exact rfl
  · exact rfl
  · exact rfl
  apply r_guard (s := 113) rfl rfl rfl
  · intro hg; apply opT_of; (refine mvS' rfl ?_); refine r_nil ?_; exact rfl
  · exact rfl
  · exact rfl
  apply r_guard (s := 113) rfl rfl rfl
  · intro hg; apply opT_strip (s := 114) rfl (by exact hg); apply opT_strip (s := 115) rfl (by exact hg); apply opT_of; (refine r_eqlS rfl rfl ?_); refine r_nil ?_; exact rfl
  · exact rfl
  · exact rfl
  refine r_and rfl rfl ?_
  refine mvB rfl ?_
  apply r_guard (s := 118) rfl rfl rfl
  · intro hg; apply opT_of; (refine mvI rfl ?_); refine r_nil ?_; exact rfl
  · exact rfl
  · exact rfl
  apply r_guard (s := 118) rfl rfl rfl
  · intro hg; apply opT_strip (s := 119) rfl (by exact hg); apply opT_of; (refine r_bin rfl rfl rfl ?_); refine r_nil ?_; exact rfl
  · exact rfl
  · exact rfl
  refine r_and rfl rfl ?_
  refine mvB rfl ?_
  apply r_guard (s := 122) rfl rfl rfl
  · intro hg; apply opT_of; (refine mvI rfl ?_); refine r_nil ?_; exact rfl
  · exact rfl
  · exact rfl
  apply r_guard (s := 122) rfl rfl rfl
  · intro hg; apply opT_strip (s := 123) rfl (by exact hg); apply opT_of; (refine r_bin rfl rfl rfl ?_); refine r_nil ?_; exact rfl
  · exact rfl
  · exact rfl
  refine r_and rfl rfl ?_
  refine mvB rfl ?_
  apply r_guard (s := 126) rfl rfl rfl
  · intro hg; apply opT_of; (refine r_load_ppN rfl rfl rfl (by exact Nat.le_of_ble_eq_true rfl) ?_); refine r_nil ?_; exact rfl
  · exact rfl
  · exact rfl
  apply r_guard (s := 126) rfl rfl rfl
  · intro hg; apply opT_of; (refine r_load_ppN rfl rfl rfl (by exact Nat.le_of_ble_eq_true rfl) ?_); refine r_nil ?_; exact rfl
  · exact rfl
  · exact rfl
  apply r_guard (s := 126) rfl rfl rfl
  · intro hg; apply opT_strip (s := 127) rfl (by exact hg); apply opT_strip (s := 128) rfl (by exact hg); apply opT_of; (refine r_call (c_same _ _) rfl rfl rfl rfl rfl ?_); refine r_nil ?_; exact rfl
  · exact rfl
  · exact rfl
  refine r_and rfl rfl ?_
  refine mvB rfl ?_
  apply r_guard (s := 131) rfl rfl rfl
  · intro hg; apply opT_of; (refine mvI rfl ?_); refine r_nil ?_; exact rfl
  · exact rfl
  · exact rfl
  apply r_guard (s := 131) rfl rfl rfl
  · intro hg; apply opT_strip (s := 132) rfl (by exact hg); apply opT_of; (refine r_bin rfl rfl rfl ?_); refine r_nil ?_; exact rfl
  · exact rfl
  · exact rfl
  refine r_and rfl rfl ?_
  refine mvB rfl ?_
  apply r_guard (s := 135) rfl rfl rfl
  · intro hg; apply opT_of; (refine mvS rfl ?_); refine r_nil ?_; exact rfl
  · exact rfl
  · exact rfl
  apply r_guard (s := 135) rfl rfl rfl
  · intro hg; apply opT_of; (refine r_buildSlice (E := StrE) (xs := lOne) rfl rfl rfl rfl rfl (by decide) (by decide) (by repeat (first | exact (Parts.nil : Parts _ _ [] _) | (show Parts _ _ ((_, _) :: _) _; apply Parts.one; (· exact (rfl : _ = Ty.str _)); (· exact rfl)))) (by exact rfl) rfl ?_); refine r_nil ?_; exact rfl
  · exact rfl
  · exact rfl
  apply r_guard (s := 135) rfl rfl rfl
  · intro hg; apply opT_strip (s := 136) rfl (by exact hg); apply opT_strip (s := 137) rfl (by exact hg); apply opT_of; (refine r_call (c_Equal_str _ _) rfl rfl rfl rfl rfl ?_); refine r_nil ?_; exact rfl
  · exact rfl
  · exact rfl
  refine r_and rfl rfl ?_
  refine mvB rfl ?_
  apply r_guard (s := 140) rfl rfl rfl
  · intro hg; apply opT_of; (refine mvS rfl ?_); refine r_nil ?_; exact rfl
  · exact rfl
  · exact rfl
  apply r_guard (s := 140) rfl rfl rfl
  · intro hg; apply opT_of; (refine r_buildSlice (E := I64) (xs := [_, _]) rfl rfl rfl rfl rfl (by decide) (by decide) (by repeat (first | exact (Parts.nil : Parts _ _ [] _) | (show Parts _ _ ((_, _) :: _) _; apply Parts.one; (· exact (rfl : _ = Ty.int _ _)); (· exact rfl)))) (by exact rfl) rfl ?_); refine r_nil ?_; exact rfl
  · exact rfl
  · exact rfl
  apply r_guard (s := 140) rfl rfl rfl
  · intro hg; apply opT_of; (refine r_buildSlice (E := I64) (xs := [_, _]) rfl rfl rfl rfl rfl (by decide) (by decide) (by repeat (first | exact (Parts.nil : Parts _ _ [] _) | (show Parts _ _ ((_, _) :: _) _; apply Parts.one; (· exact (rfl : _ = Ty.int _ _)); (· exact rfl)))) (by exact rfl) rfl ?_); refine r_nil ?_; exact rfl
  · exact rfl
  · exact rfl
  apply r_guard (s := 140) rfl rfl rfl
  · intro hg; apply opT_strip (s := 142) rfl (by exact hg); apply opT_strip (s := 143) rfl (by exact hg); apply opT_of; (refine r_buildSlice (E := RowE) (xs := [[112, 45], [112, 45]]) rfl rfl rfl rfl rfl (by decide) (by decide) (by repeat (first | exact (Parts.nil : Parts _ _ [] _) | (show Parts _ _ ((_, _) :: _) _; apply Parts.one; (· exact (rfl : _ = Ty.sl _ _)); (· exact rfl)))) (by exact rfl) rfl ?_); refine r_nil ?_; exact rfl
  · exact rfl
  · exact rfl
  apply r_guard (s := 140) rfl rfl rfl
  · intro hg; apply opT_strip (s := 141) rfl (by exact hg); apply opT_strip (s := 144) rfl (by exact hg); apply opT_of; (refine r_call (c_EqRows _ _) rfl rfl rfl rfl rfl ?_); refine r_nil ?_; exact rfl
  · exact rfl
  · exact rfl
  refine r_and rfl rfl ?_
  refine asB rfl ?_
  refine r_nil ?_
  refine i_then ?_
  refine t_ret ?_
  refine i_rp1 rfl rfl ?_
  all_goals exact ret_refl rfl rfl
  all_goals trace_state
end Go.Proofs.YtjjndkenddigiaaGreatDoor

namespace Go.Proofs.YtjjndkenddigiaaGreatDoor
open Go Go.T
set_option maxHeartbeats 2000000
def putV (b : Book) (r : BRow) : Book × Int := if bokY b ≠ 0 then (Book.zero, bokY b) else if (b.rows.length : Int) = 12 then (Book.zero, 9) else if rowY b.form r ≠ 0 then (Book.zero, rowY b.form r) else (⟨b.form, b.rows ++ [r]⟩, 0)
theorem pv_1 {b : Book} {r : BRow} (h : ¬ bokY b = 0) : putV b r = (Book.zero, bokY b) := if_pos h
theorem pv_2 {b : Book} {r : BRow} (h : bokY b = 0) (h2 : (b.rows.length : Int) = 12) : putV b r = (Book.zero, 9) := by unfold putV; rw [if_neg (fun e => e h), if_pos h2]
theorem pv_3 {b : Book} {r : BRow} (h : bokY b = 0) (h2 : ¬ (b.rows.length : Int) = 12) (h3 : ¬ rowY b.form r = 0) : putV b r = (Book.zero, rowY b.form r) := by unfold putV; rw [if_neg (fun e => e h), if_neg h2, if_pos h3]
theorem pv_4 {b : Book} {r : BRow} (h : bokY b = 0) (h2 : ¬ (b.rows.length : Int) = 12) (h3 : rowY b.form r = 0) : putV b r = (⟨b.form, b.rows ++ [r]⟩, 0) := by unfold putV; rw [if_neg (fun e => e h), if_neg h2, if_neg (fun e => e h3)]
attribute [local irreducible] putV bokY rowY
attribute [local irreducible] dInt dBool dSl dPp dPtr dAgg dTup dClo dAny dEx dStr dGd dCells dVec dVs dRow dOp nth Tri Into TOps Ctr bodyPost Exit.then Exit.inBlock Code.wp Code.wpIn dPa dArr dMp dMap CtrG keepPost iterPost bodyPostM roundQ
end Go.Proofs.YtjjndkenddigiaaGreatDoor

namespace Go.Proofs.YtjjndkenddigiaaGreatDoor
open Go Go.T
set_option maxHeartbeats 2000000
def strV (b : Book) (i : Int) : Book × Int := if bokY b ≠ 0 then (Book.zero, bokY b) else if inB i 0 ((b.rows.length : Int) - 1) = false then (Book.zero, 1) else if (nth b.rows i.toNat).struck = true then (Book.zero, 5) else (⟨b.form, b.rows.set i.toNat ⟨(nth b.rows i.toNat).nums, true⟩⟩, 0)
theorem sv_1 {b : Book} {i : Int} (h : ¬ bokY b = 0) : strV b i = (Book.zero, bokY b) := if_pos h
theorem sv_2 {b : Book} {i : Int} (h : bokY b = 0) (h2 : inB i 0 ((b.rows.length : Int) - 1) = false) : strV b i = (Book.zero, 1) := by unfold strV; rw [if_neg (fun e => e h), if_pos h2]
theorem sv_3 {b : Book} {k : Nat} (h : bokY b = 0) (h2 : k < b.rows.length) (h3 : (nth b.rows k).struck = true) : strV b (k : Int) = (Book.zero, 5) := by
  unfold strV; rw [if_neg (fun e => e h), if_neg (by unfold inB; simp; omega), if_pos (by simpa using h3)]
theorem sv_4 {b : Book} {k : Nat} (h : bokY b = 0) (h2 : k < b.rows.length) (h3 : (nth b.rows k).struck = false) : strV b (k : Int) = (⟨b.form, b.rows.set k ⟨(nth b.rows k).nums, true⟩⟩, 0) := by
  unfold strV; rw [if_neg (fun e => e h), if_neg (by unfold inB; simp; omega), if_neg (by rw [Int.toNat_natCast, h3]; decide), Int.toNat_natCast]
theorem in_nat {i : Int} {n : Nat} (h : inB i 0 ((n : Int) - 1) = true) : ∃ k : Nat, k < n ∧ i = k := by
  unfold inB at h
  simp only [Bool.and_eq_true, decide_eq_true_eq] at h
  exact ⟨i.toNat, by omega, by omega⟩
attribute [local irreducible] strV bokY inB
attribute [local irreducible] dInt dBool dSl dPp dPtr dAgg dTup dClo dAny dEx dStr dGd dCells dVec dVs dRow dOp nth Tri Into TOps Ctr bodyPost Exit.then Exit.inBlock Code.wp Code.wpIn dPa dArr dMp dMap CtrG keepPost iterPost bodyPostM roundQ
set_option maxRecDepth 100000 in
theorem c_hasRow (b : Book) (hl : b.rows.length ≤ 1000) (i : Int) : Ctr Tryz.prog 96 [bokT b, Ty.int .i64 i] (Ty.bool (inB i 0 ((b.rows.length : Int) - 1))) := by
  refine fn_intro Tryz.func96 rfl (by decide) Tryz.ntmps96 (by exact Nat.le_of_ble_eq_true rfl) fun w0 M0 => ?_
  refine t_seq ?_
  refine t_region ?_
  refine r_box_agg rfl ?_
  refine asB rfl ?_
  refine r_nil ?_
  refine i_then ?_
  refine t_seq ?_
  refine t_region ?_
  refine mvI rfl ?_
  refine r_field_pp rfl rfl rfl rfl rfl (by decide) ?_
  refine r_load_pp rfl rfl rfl rfl ?_
  refine r_len rfl rfl rfl ?_
  refine r_sub rfl rfl (by omega) (by omega) ?_
  refine r_call (c_in _ _ _) rfl rfl rfl rfl rfl ?_
  refine asB rfl ?_
  refine r_nil ?_
  refine i_then ?_
  refine t_ret ?_
  refine i_rp1 rfl rfl ?_
  all_goals exact ret_refl rfl rfl
end Go.Proofs.YtjjndkenddigiaaGreatDoor

namespace Go.Proofs.YtjjndkenddigiaaGreatDoor
open Go Go.T
set_option maxHeartbeats 2000000
def corV (b : Book) (i : Int) (r : BRow) : Book × Int := if (strV b i).2 ≠ 0 then (Book.zero, (strV b i).2) else putV (strV b i).1 r
theorem cv_1 {b : Book} {i : Int} {r : BRow} (h : ¬ (strV b i).2 = 0) : corV b i r = (Book.zero, (strV b i).2) := if_pos h
theorem cv_2 {b : Book} {i : Int} {r : BRow} (h : (strV b i).2 = 0) : corV b i r = putV (strV b i).1 r := if_neg (fun e => e h)
theorem str_rng {b : Book} (hb : ∀ r ∈ b.rows, Rng r.nums) (i : Int) : ∀ r ∈ (strV b i).1.rows, Rng r.nums := by
  unfold strV
  split
  · intro r hr; cases hr
  · split
    · intro r hr; cases hr
    · split
      · intro r hr; cases hr
      · intro r hr
        rcases List.mem_or_eq_of_mem_set (show r ∈ b.rows.set i.toNat ⟨(nth b.rows i.toNat).nums, true⟩ from hr) with h | h
        · exact hb r h
        · subst h
          rcases Nat.lt_or_ge i.toNat b.rows.length with h | h
          · exact hb (nth b.rows i.toNat) (nth_mem h)
          · have hr : _ ∈ b.rows.set i.toNat _ := hr
            rw [List.set_eq_of_length_le h] at hr
            exact hb _ hr
attribute [local irreducible] strV putV corV
attribute [local irreducible] dInt dBool dSl dPp dPtr dAgg dTup dClo dAny dEx dStr dGd dCells dVec dVs dRow dOp nth Tri Into TOps Ctr bodyPost Exit.then Exit.inBlock Code.wp Code.wpIn dPa dArr dMp dMap CtrG keepPost iterPost bodyPostM roundQ
end Go.Proofs.YtjjndkenddigiaaGreatDoor

namespace Go.T
open Go Go.RowKit
def dNw {α : Type} (m : Nat) (E : El α) (T : Nat) (xs : List α) (w : World) (M : Tags) (x : Value) : Prop :=
  (xs = [] ∧ x = .slice none 0 0) ∨ ∃ g cur c, x = .slice (some ⟨g, 0, none⟩) xs.length c ∧ xs.length ≤ c ∧ c ≤ maxLen ∧ m ≤ g ∧ M g = none ∧ w.heap[g]? = some (.cells cur T (0, 0)) ∧ xs.length ≤ cur.size ∧ dens w M (xs.flatMap E.tys) (cur.toList.take (xs.flatMap E.tys).length)
theorem heap_lt {w : World} {g : Nat} {x : Obj} (h : w.heap[g]? = some x) : g < w.heap.size := (Array.getElem?_eq_some_iff.1 h).1
def Ty.nw {α : Type} (m : Nat) (E : El α) (T : Nat) (xs : List α) : Ty :=
  ⟨dNw m E T xs, [], [], fun le _ _ h => h.imp id fun ⟨g, cur, c, e, h1, h2, hm, hg, hh, hs, hd⟩ =>
    let ⟨a, b⟩ := le.pub g (heap_lt hh) hg
    ⟨g, cur, c, e, h1, h2, hm, a, b.trans hh, hs, dens_mono le (by rw [E.flat_deps]; intro _ h; cases h) (by rw [E.flat_cdeps]; intro _ h; cases h) hd⟩, true, fun _ h => by
    rcases h with ⟨_, rfl⟩ | ⟨_, _, _, rfl, _⟩ <;> rfl⟩
theorem subs_app : ∀ {a a' b b' : List Ty}, Subs a a' → Subs b b' → Subs (a ++ b) (a' ++ b')
  | [], [], _, _, _, h => h
  | _ :: _, _ :: _, _, _, ⟨h1, h2⟩, h => ⟨h1, subs_app h2 h⟩
theorem subs_flat {α : Type} {f g : α → List Ty} (h : ∀ x, Subs (f x) (g x)) : ∀ xs : List α, Subs (xs.flatMap f) (xs.flatMap g)
  | [] => trivial
  | x :: xs => by rw [List.flatMap_cons, List.flatMap_cons]; exact subs_app (h x) (subs_flat h xs)
theorem nw_sl {α : Type} {m T : Nat} {E E' : El α} {xs : List α} (h : ∀ x, Subs (E.tys x) (E'.tys x)) : (Ty.nw m E T xs).Sub (Ty.sl E' xs) := fun w M v hd => by
  rcases hd with ⟨rfl, rfl⟩ | ⟨g, cur, c, rfl, h1, h2, _, hg, hh, _, hd⟩
  · exact Ty.nil_sl _ _ _ rfl
  · refine ⟨_, c, rfl, h1, h2, fun _ => ⟨g, 0, rfl, hg, heap_lt hh, fun i t hi => ?_⟩⟩
    obtain ⟨u, hu, hdu⟩ := dens_get (subs_dens' (subs_flat h xs) hd) i t hi
    refine ⟨u, ?_, hdu⟩
    rw [List.getElem?_take] at hu
    split at hu
    · simpa [World.cell?, hh] using hu
    · cases hu
theorem nw_weak {α : Type} {m m' T : Nat} {E E' : El α} {xs : List α} (hm : m' ≤ m) (h : ∀ x, Subs (E.tys x) (E'.tys x)) : (Ty.nw m E T xs).Sub (Ty.nw m' E' T xs) := fun w M v hd =>
  hd.imp id fun ⟨g, cur, c, e, h1, h2, h3, hg, hh, hs, hd⟩ => by
    have hl := subs_len (subs_flat h xs)
    exact ⟨g, cur, c, e, h1, h2, Nat.le_trans hm h3, hg, hh, hs, hl ▸ subs_dens' (subs_flat h xs) hd⟩
theorem nw_nil {α : Type} {m T : Nat} {E : El α} : (Ty.ex (.slice none 0 0)).Sub (Ty.nw m E T ([] : List α)) := fun _ _ _ h => .inl ⟨rfl, h⟩
def NewTy (m : Nat) (t : Ty) : Prop := ∀ w M M' v, (∀ b, m ≤ b → b < w.heap.size → M b = none → M' b = none) → t.den w M v → t.den w M' v
theorem dens_new {m : Nat} {w : World} {M M' : Tags} (hM : ∀ b, m ≤ b → b < w.heap.size → M b = none → M' b = none) : ∀ {l : List Ty} {vs : List Value}, (∀ t ∈ l, NewTy m t) → dens w M l vs → dens w M' l vs
  | [], [], _, _ => trivial
  | _ :: _, _ :: _, h, ⟨h1, h2⟩ => ⟨h _ List.mem_cons_self _ _ _ _ hM h1, dens_new hM (fun t ht => h t (List.mem_cons_of_mem _ ht)) h2⟩
theorem newTy_nw {α : Type} {m T : Nat} {E : El α} {xs : List α} (h : ∀ x, ∀ t ∈ E.tys x, NewTy m t) : NewTy m (Ty.nw m E T xs) := fun w M M' v hM hd =>
  hd.imp id fun ⟨g, cur, c, e, h1, h2, hm, hg, hh, hs, hd⟩ => ⟨g, cur, c, e, h1, h2, hm, hM g hm (heap_lt hh) hg, hh, hs, dens_new hM (fun t ht => by obtain ⟨x, _, hx⟩ := List.mem_flatMap.1 ht; exact h x t hx) hd⟩
theorem newTy_int {m : Nat} {k : IntKind} {i : Int} : NewTy m (Ty.int k i) := fun _ _ _ _ _ h => h
theorem newTy_bool {m : Nat} {b : Bool} : NewTy m (Ty.bool b) := fun _ _ _ _ _ h => h
theorem subs_refl : ∀ {l : List Ty}, Subs l l
  | [] => trivial
  | t :: _ => ⟨Ty.sub_refl t, subs_refl⟩
theorem sl_flat {α β : Type} {E : El α} {E' : El β} {xs : List α} {ys : List β} (hl : xs.length = ys.length) (h : xs.flatMap E.tys = ys.flatMap E'.tys) : (Ty.sl E xs).Sub (Ty.sl E' ys) := fun _ _ _ ⟨A, c, e, h1, h2, h3⟩ =>
  ⟨A, c, hl ▸ e, hl ▸ h1, h2, fun h0 => h ▸ h3 (hl ▸ h0)⟩
def Cont.lo (m : Nat) : Cont :=
  { den := fun w M _ => m ≤ w.heap.size ∧ ∀ b, b < m → M b = none ∨ M b = some 0
    deps := [0], cdeps := []
    mono := fun le hk _ _ _ ⟨h1, h2⟩ => ⟨Nat.le_trans h1 le.size, fun b hb => (h2 b hb).imp (fun h => (le.pub b (by omega) h).1) fun h => (le.own b 0 h (hk 0 (by simp))).1⟩ }
theorem pubTy_rowN {A : As} {α β : Type} {m T tg : Nat} {E : El α} {E' : El β} {xs : List α} {ys : List β} (hc : A.tag 4998 = some (.lo m)) (h1 : 1 ≤ tg) (h0 : 1 ≤ E.size) (he : xs.length = ys.length) (hE : Subs (xs.flatMap E.tys) (ys.flatMap E'.tys)) : PubTy A tg (.row E T tg xs) (.nw m E' T ys) := fun w M v wf ht hd => by
  obtain ⟨_, hlo⟩ := ht _ (tag_mem hc)
  obtain ⟨cs, hown, hcs, hM⟩ := hd
  rcases hown.2 with ⟨rfl, h0⟩ | ⟨g, cap, cur, rfl, _, hh, hn, hcap, hsz, htk⟩
  · exact .inl ⟨List.length_eq_zero_iff.1 (he ▸ h0), rfl⟩
  · have hg : M g = some tg := hM g rfl
    have hlen := dens_len hcs
    have hl : (ys.flatMap E'.tys).length = (xs.flatMap E.tys).length := (subs_len hE).symm
    refine .inr ⟨g, cur, cap, by rw [he], by omega, hcap, Nat.le_of_not_lt fun hlt => ?_, by simp [pubTag, hg], hh, ?_, ?_⟩
    · rcases hlo g hlt with h | h
      · rw [hg] at h; cases h
      · rw [hg] at h; injection h with h; omega
    · rw [hsz, ← he]; exact Nat.le_trans hn (Nat.le_mul_of_pos_right _ h0)
    · have hd2 : dens w (pubTag M tg) (xs.flatMap E.tys) cs := dens_mono (pubTag_le (w := w)) (by rw [E.flat_deps]; intro _ h; cases h) (by rw [E.flat_cdeps]; intro _ h; cases h) hcs
      have e : cur.toList.take (ys.flatMap E'.tys).length = cs := by
        rw [hl, flat_len, htk]
      rw [e]
      exact subs_dens' hE hd2
def CtrN (P : Program) (f : FuncId) (args : List Ty) (res : Nat → Ty) : Prop :=
  (∃ fn, P.funcs[f]? = some fn ∧ (fn.name == "runtime.NumGoroutine") = false ∧ fn.body.isNone = false) ∧
  ∀ m w M vs, m ≤ w.heap.size → Wf w M → (∀ b t, M b = some t → t = 0) → dens w M args vs → Calls P f vs.toArray w (retPost w M (res m))
theorem CtrN.plain {P : Program} {f : FuncId} {args : List Ty} {res : Nat → Ty} {res' : Ty} (hs : (res 0).Sub res') (h : CtrN P f args res) : Ctr P f args res' :=
  ⟨h.1, fun w M vs wf h0 hd => (h.2 0 w M vs (Nat.zero_le _) wf h0 hd).mono fun _ _ ⟨r, M', e, wf', le, hr⟩ => ⟨r, M', e, wf', le, hs _ _ _ hr⟩⟩
section
variable {P : Program}
theorem fnN_intro {f : FuncId} {fn : Func} {c : Code} {args : List Ty} {res : Nat → Ty} {n : Nat} (hf : P.funcs[f]? = some fn) (hb : fn.body = some c) (hn : (fn.name == "runtime.NumGoroutine") = false) (hnt : fn.ntmps = n) (hl : args.length ≤ n)
    (h : ∀ m w0 M0, Tri P ⟨n, w0, M0, [], .plain⟩ c (entryG args [(4998, .lo m)]) (bodyPost P fn (retPost w0 M0 (res m)))) : CtrN P f args res := by
  refine ⟨⟨fn, hf, hn, by rw [hb]; rfl⟩, fun m w M vs hm wf hM hd => calls_of_wp hf hb (wpIn_wide.1 (h m w M _ _ ?_))⟩
  have hlen := dens_len hd
  refine ⟨M, ⟨wf, Le.refl _ _ _ _, by simp [hnt, hlen]; omega, Defs.nil⟩, fun c hc => ?_, fun x hx => ?_⟩
  · simp only [entryG]
    cases ha : args[c]? with
    | none => trivial
    | some ty =>
      obtain ⟨v, hv, hdv⟩ := dens_get hd c ty ha
      have : (vs.toArray ++ Array.replicate (fn.ntmps - vs.toArray.size) undef).getD c undef = v := by
        have hlt : c < vs.length := (List.getElem?_eq_some_iff.1 hv).1
        rw [Array.getD_eq_getD_getElem?, Array.getElem?_append_left (by simpa using hlt)]
        simp [hv]
      rw [this]; exact hdv
  · rw [List.mem_singleton.1 hx]
    refine ⟨hm, fun b _ => ?_⟩
    cases hb : M b with
    | none => exact .inl rfl
    | some t => exact .inr (by rw [hM b t hb])
end
def vwJ (J : Nat) (M : Tags) : Tags := fun b => if M b = some J then none else some 1
theorem vwJ_none {J : Nat} {M : Tags} {b : Nat} : vwJ J M b = none ↔ M b = some J := by
  unfold vwJ; split <;> simp_all
def Ty.fam (J : Nat) (t : Ty) (h1 : t.deps = []) (h2 : t.cdeps = []) : Ty :=
  { den := fun w M v => t.den w (vwJ J M) v, deps := [J], cdeps := [J], one := t.one, isOne := t.isOne
    mono := fun le hk hs h => t.mono (S := fun _ => True) (K := fun _ => True) ⟨le.size, le.os, le.tape, le.out, fun b _ hb => by
      have hJ := vwJ_none.1 hb
      obtain ⟨a, c⟩ := le.own b J hJ (hk J (by simp))
      exact ⟨vwJ_none.2 a, c (hs J (by simp))⟩, fun _ _ _ h => absurd trivial h⟩ (by rw [h1]; intro _ h; cases h) (by rw [h2]; intro _ h; cases h) h }
theorem vw_mono {t : Ty} {w : World} {M M' : Tags} {v : Value} (h1 : t.deps = []) (h2 : t.cdeps = []) (hM : ∀ b, M b = none → M' b = none) (h : t.den w M v) : t.den w M' v :=
  t.mono (S := fun _ => True) (K := fun _ => True) ⟨Nat.le_refl _, rfl, rfl, rfl, fun b _ hm => ⟨hM b hm, rfl⟩, fun b t _ h => absurd trivial h⟩ (by rw [h1]; intro _ h; cases h) (by rw [h2]; intro _ h; cases h) h
theorem cv_fam {ρ : List (Nat × Nat)} {a b : Nat} {t : Ty} {h1 : t.deps = []} {h2 : t.cdeps = []} (h : (a, b) ∈ ρ) : Conv ρ (Ty.fam a t h1 h2) (Ty.fam b t h1 h2) := fun w M M' v _ _ hre hd =>
  show t.den w (vwJ b M') v from vw_mono (t := t) (M := vwJ a M) h1 h2 (fun k hk => vwJ_none.2 (hre.some (a, b) h k (vwJ_none.1 hk))) hd
theorem lend_fam {L : List Nat} {J : Nat} {t t' : Ty} {h1 : t.deps = []} {h2 : t.cdeps = []} (h : L.contains J = true) (hs : t.Sub t') : Lend L (Ty.fam J t h1 h2) t' := fun w M v _ hd =>
  hs _ _ _ (vw_mono (t := t) (M := vwJ J M) h1 h2 (fun _ hk => lend_in (vwJ_none.1 hk) (by simpa using h)) hd)
def FamOk (J : Nat) (res : Nat → Ty) (res' : Ty) : Prop := ∀ m w M1 M2 v, (∀ b, m ≤ b → b < w.heap.size → M1 b = none → M2 b = some J) → (res m).den w M1 v → res'.den w M2 v
def FamOks (J : Nat) (l : Nat → List Ty) (l' : List Ty) : Prop := ∀ m w M1 M2 vs, (∀ b, m ≤ b → b < w.heap.size → M1 b = none → M2 b = some J) → dens w M1 (l m) vs → dens w M2 l' vs
theorem fams_nil {J : Nat} : FamOks J (fun _ => []) [] := fun _ _ _ _ vs _ h => by cases vs <;> exact h
theorem fams_cons {J : Nat} {a : Nat → Ty} {s : Ty} {l : Nat → List Ty} {l' : List Ty} (h : FamOk J a s) (h' : FamOks J l l') : FamOks J (fun m => a m :: l m) (s :: l') := fun m w M1 M2 vs hM hd => by
  cases vs with
  | nil => exact hd.elim
  | cons v vs => exact ⟨h m w M1 M2 v hM hd.1, h' m w M1 M2 vs hM hd.2⟩
theorem fam_tup {J : Nat} {l : Nat → List Ty} {l' : List Ty} (h : FamOks J l l') : FamOk J (fun m => Ty.tup (l m)) (Ty.tup l') := fun m w M1 M2 v hM ⟨cs, e, hd⟩ => ⟨cs, e, h m w M1 M2 _ hM hd⟩
theorem fam_agg {J : Nat} {l : Nat → List Ty} {l' : List Ty} (h : FamOks J l l') : FamOk J (fun m => Ty.agg (l m)) (Ty.agg l') := fun m w M1 M2 v hM ⟨cs, e, hd⟩ => ⟨cs, e, h m w M1 M2 _ hM hd⟩
theorem fam_int {J : Nat} {k : IntKind} {i : Int} : FamOk J (fun _ => Ty.int k i) (Ty.int k i) := fun _ _ _ _ _ _ h => h
theorem fam_new {J : Nat} {t : Nat → Ty} {t0 : Ty} {h1 : t0.deps = []} {h2 : t0.cdeps = []} (hn : ∀ m, NewTy m (t m)) (h0 : ∀ m, (t m).Sub t0) : FamOk J t (Ty.fam J t0 h1 h2) := fun m w M1 M2 v hM hd =>
  h0 m _ _ _ (hn m w M1 (vwJ J M2) v (fun b hb hlt hm => vwJ_none.2 (hM b hb hlt hm)) hd)
def callF (w w' : World) (M : Tags) (J : Nat) : Tags := fun b => if b < w.heap.size then M b else if b < w'.heap.size then some J else none
theorem callF_left {w w' : World} {M M' : Tags} {J : Nat} {res : Nat → Ty} {res' : Ty} {r : Value} (hJ : 4096 ≤ J) (wf : Wf w M) (le : Le (fun t => 1 ≤ t) (fun t => 1 ≤ t) w (fgn M) w' M') (hF : FamOk J res res') (hr : (res w.heap.size).den w' M' r) :
    Wf w' (callF w w' M J) ∧ Le (· ∈ ([] : List Nat)) (· ∈ ([] : List Nat)) w M w' (callF w w' M J) ∧ res'.den w' (callF w w' M J) r := by
  have hold : ∀ b, b < w.heap.size → w'.heap[b]? = w.heap[b]? := fun b hb => by
    cases hm : M b with
    | none => exact (le.pub b hb (fgn_none hm)).2
    | some t => exact (le.own b 0 (fgn_of hm) (by omega)).2 (by omega)
  refine ⟨⟨fun b t h => ?_, fun b b' t ht1 h h' => ?_, wf.amb.of fun b hb hm => ⟨by simp [callF, hb, hm], hold b hb⟩⟩, ⟨le.size, le.os, le.tape, le.out, fun b hb hm => ⟨by simp [callF, hb, hm], hold b hb⟩, fun b t hm _ => ⟨by simp [callF, wf.lt b t hm, hm], fun _ => hold b (wf.lt b t hm)⟩⟩, ?_⟩
  · unfold callF at h
    split at h
    · exact Nat.lt_of_lt_of_le ‹_› le.size
    · split at h
      · assumption
      · cases h
  · have key : ∀ c, callF w w' M J c = some (t + 1) → M c = some (t + 1) := fun c h => by
      unfold callF at h
      split at h
      · exact h
      · split at h
        · injection h with h; omega
        · cases h
    exact wf.inj b b' t ht1 (key b h) (key b' h')
  · exact hF w.heap.size w' M' _ r (fun b hb hlt _ => by unfold callF; rw [if_neg (by omega), if_pos hlt]) hr
section
variable {P : Program} {fr : Fr} {ops : Array Oper} {A : As} {rest : List Oper} {K : As → List (As × Fx) → Prop} {d : Nat} {t ty' : TypeId} {p : String} {e : Array Edge} {Q : Exit → Act → World → Prop} {c : Code}
theorem run_callFuncN {f : FuncId} {args : List Ty} {res : Nat → Ty} (hF : CtrN P f args res) (vs : Array Value) (w : World) : (callFunc f vs).run P w = .ok (.enter f vs) w := by
  obtain ⟨⟨fn, hf, hn, hb⟩, _⟩ := hF
  have hn' : fn.name ≠ "runtime.NumGoroutine" := by simpa using hn
  have hb' : fn.body ≠ none := fun h => by rw [h] at hb; cases hb
  simp [callFunc, hf, hn', hb']
theorem run_callN {f : FuncId} {args : List Ty} {res : Nat → Ty} (hF : CtrN P f args res) {dst : Option Nat} {xs : List Operand} {ats : Array TypeId} (a : Act) (w : World) : (execOp a.eval ⟨dst, .call ⟨.value (.func f), xs.toArray, ats⟩, t, p, e, none⟩).run P w = .ok (.enter f (xs.map a.eval).toArray) w := by
  simp [execOp, resolve, Act.eval, Deferred.ofValue, invoke, run_callFuncN hF]
theorem r_callN {m : Nat} {f : FuncId} {args : List Ty} {res : Nat → Ty} (hF : CtrN P f args res) {xs : List Operand} {ats : Array TypeId} (hc : A.tag 4998 = some (.lo m)) (hx : opsTy A fr xs = args) (hd : depsOf args = []) (hdc : cdepsOf args = []) (hr : (res m).deps = []) (hrc : (res m).cdeps = [])
    (h : TOps P fr ops rest (A.set d (res m)) fun A' l => K A' ((A, { d := some d, ty := res m, rs := xs.flatMap opR, rt := [4998] }) :: l)) : TOps P fr ops (⟨some d, .call ⟨.value (.func f), xs.toArray, ats⟩, t, p, e, none⟩ :: rest) A K := by
  refine ⟨{ d := some d, ty := res m, rs := xs.flatMap opR, rt := [4998] }, ⟨rfl, by simp, by simp, by simp, fun a w M wf _ hrd htg => ?_⟩, h⟩
  rw [if_pos (by simp [Region.wanted])]
  have hv : dens w M args (xs.map a.eval) := hx ▸ opsTy_dens hrd fun x hx c hc => List.mem_flatMap.2 ⟨x, hx, hc⟩
  have hm : m ≤ w.heap.size := (htg _ (tag_mem hc) (by simp)).1
  refine wp_in_enter (run_callN hF a w) ?_
  refine (hF.2 m w _ _ hm (fgn_wf wf) fgn_zero (dens_foreign hd hdc hv)).mono fun en w' ⟨r, M', he, _, le, hden⟩ => ?_
  obtain ⟨h1, h2, h3⟩ := call_left wf le hr hrc hden
  exact ⟨r, he, r, rfl, _, h1, h2, h3, by simp⟩
theorem r_callF_new (J : Nat) {f : FuncId} {args : List Ty} {res : Nat → Ty} {res' : Ty} (hJ : 4096 ≤ J) (hF : CtrN P f args res) (hR : FamOk J res res') {xs : List Operand} {ats : Array TypeId} (hx : opsTy A fr xs = args) (hd : depsOf args = []) (hdc : cdepsOf args = [])
    (h : TOps P fr ops rest (A.set d res') fun A' l => K A' ((A, { d := some d, ty := res', rs := xs.flatMap opR }) :: l)) : TOps P fr ops (⟨some d, .call ⟨.value (.func f), xs.toArray, ats⟩, t, p, e, none⟩ :: rest) A K := by
  refine ⟨{ d := some d, ty := res', rs := xs.flatMap opR }, ⟨rfl, by simp, by simp, by simp, fun a w M wf _ hrd _ => ?_⟩, h⟩
  rw [if_pos (by simp [Region.wanted])]
  have hv : dens w M args (xs.map a.eval) := hx ▸ opsTy_dens hrd fun x hx c hc => List.mem_flatMap.2 ⟨x, hx, hc⟩
  refine wp_in_enter (run_callN hF a w) ?_
  refine (hF.2 w.heap.size w _ _ (Nat.le_refl _) (fgn_wf wf) fgn_zero (dens_foreign hd hdc hv)).mono fun en w' ⟨r, M', he, _, le, hden⟩ => ?_
  obtain ⟨h1, h2, h3⟩ := callF_left hJ wf le hR hden
  exact ⟨r, he, r, rfl, _, h1, h2, h3, by simp⟩
end
section
variable {P : Program} {A : As} {fn : Func} {n : Nat} {w0 : World} {M0 : Tags}
def RetSubN (m : Nat) (s t : Ty) : Prop := ∀ w M v, Wf w M → (Cont.lo m).den w M 4998 → s.den w M v → t.den w (pubM M) v
theorem i_rpN1 {m tm : Nat} {res : Ty} (hr : fn.results = #[.tmp tm]) (ht : Nat.blt tm n = true) (hc : A.tag 4998 = some (.lo m)) (hs : RetSubN m (A.slots tm) res) : Into ⟨n, w0, M0, [], .plain⟩ A (bodyPost P fn (retPost w0 M0 res) .ret) := by
  intro a w ⟨M, ok, hsl, htg⟩
  exact ⟨ok.nodefers (by simp), _, results_tmp hr _ _ _, _, pubM M, rfl, pubM_wf ok.wf, base_pub (fr := ⟨n, w0, M0, [], .plain⟩) (fun _ h => h) ok.base, hs _ _ _ ok.wf (htg _ (tag_mem hc)) (hsl tm (by simpa using ht))⟩
theorem retN_of {m : Nat} {s t : Ty} (h : RetSub s t) : RetSubN m s t := fun w M v wf _ hd => h w M v wf hd
theorem retN_row {α β : Type} {m T tg : Nat} {E : El α} {E' : El β} {xs : List α} {ys : List β} (h1 : 1 ≤ tg) (h0 : 1 ≤ E.size) (he : xs.length = ys.length) (hE : Subs (xs.flatMap E.tys) (ys.flatMap E'.tys)) : RetSubN m (.row E T tg xs) (.nw m E' T ys) := fun w M v wf hlo hd => by
  have hp := pubTy_rowN (A := ⟨fun _ => Ty.any, [(4998, .lo m)]⟩) (m := m) rfl h1 h0 he hE w M v wf (fun x hx => by rw [List.mem_singleton.1 hx]; exact hlo) hd
  refine vw_mono (M := pubTag M tg) rfl rfl (fun b hb => ?_) hp
  unfold pubTag at hb
  split at hb
  · rename_i hb'
    obtain ⟨u, rfl⟩ : ∃ u, tg = u + 1 := ⟨tg - 1, by omega⟩
    exact pubM_succ hb'
  · exact pubM_none hb
end
def XEb : El ({v : Value // v.oneCell' = true} × Bool) := ⟨2, fun y => [Ty.ex y.1.1, Ty.bool y.2], fun _ => rfl, fun _ => rfl, fun _ => rfl, fun y => by
  have : (Ty.ex y.1.1).one = true := y.1.2
  simp [this, Ty.bool]⟩
section
variable {P : Program} {fr : Fr} {A : As} {Q : Exit → Act → World → Prop} {code : Code}
theorem fit_nw {m T : Nat} {xs : List Int} {w : World} {J : Nat} {M M' : Tags} {v : Value} (hM : ∀ g cur, w.heap[g]? = some (.cells cur T (0, 0)) → M g = some J → M' g = some J) (h : (Ty.nw m I64 T xs).den w (vwJ J M) v) : dFit w M' J v := by
  rcases h with ⟨_, rfl⟩ | ⟨g, cur, c, rfl, h1, h2, _, hg, hh, hs, _⟩
  · exact .inl rfl
  · exact .inr ⟨g, _, c, cur, T, rfl, hM g cur hh (vwJ_none.1 hg), hh, hs⟩
theorem open_nw {α : Type} {m Ti J : Nat} {E : El α} {nums : α → List Int} {st : α → Bool} (hE : ∀ x, E.tys x = [Ty.nw m I64 Ti (nums x), Ty.bool (st x)]) {w : World} {M M' : Tags} (hM : ∀ g cur, w.heap[g]? = some (.cells cur Ti (0, 0)) → M g = some J → M' g = some J) : ∀ {xs : List α} {cs : List Value}, dens w (vwJ J M) (xs.flatMap E.tys) cs →
    ∃ ys : List ({v : Value // v.oneCell' = true} × Bool), ys.length = xs.length ∧ dens w M' (ys.flatMap XEb.tys) cs ∧ ∀ v ∈ ys.map (fun y => y.1.1), dFit w M' J v
  | [], [], _ => ⟨[], rfl, trivial, by simp⟩
  | x :: xs, cs, h => by
    rw [List.flatMap_cons, hE x] at h
    match cs, h with
    | v1 :: v2 :: cs, ⟨h1, h2, h3⟩ =>
      obtain ⟨ys, e1, e2, e3⟩ := open_nw hE hM h3
      refine ⟨(⟨v1, (Ty.nw m I64 Ti (nums x)).isOne rfl h1⟩, st x) :: ys, by simp [e1], ⟨rfl, h2, e2⟩, fun v hv => ?_⟩
      rw [List.map_cons, List.mem_cons] at hv
      rcases hv with rfl | hv
      · exact fit_nw hM h1
      · exact e3 v hv
theorem t_openF {α : Type} {s J tg Ti Tr : Nat} {ws : List Int} {n : Int} {E : El α} {rows : List α} {nums : α → List Int} {st : α → Bool} {g1 : (Ty.nw 0 I64 Ti ws).deps = []} {g2 : (Ty.nw 0 I64 Ti ws).cdeps = []} {g3 : (Ty.nw 0 E Tr rows).deps = []} {g4 : (Ty.nw 0 E Tr rows).cdeps = []} (hs : Nat.blt s fr.n = true)
    (hx : A.slots s = .agg [.fam J (.nw 0 I64 Ti ws) g1 g2, .int .i64 n, .fam J (.nw 0 E Tr rows) g3 g4]) (hE : ∀ x, E.tys x = [Ty.nw 0 I64 Ti (nums x), Ty.bool (st x)]) (hT : Nat.beq Ti Tr = false) (hsz : E.size = 2) (h1 : Tag1 tg) (h2 : 4096 ≤ J) (hp : fr.pass.contains tg = false) (hp2 : fr.pass.contains J = false)
    (h : ∀ v ys, ys.length = rows.length → Tri P fr code ⟨fun i => bif Nat.beq i s then .agg [.ex v, .int .i64 n, .vs tg rows.length] else killSlots [] [tg, J] A.slots i, (tg, .vec XEb Tr ys) :: (J, .fit (v :: ys.map fun y => y.1.1)) :: killTags [] [tg, J] A.tags⟩ Q) : Tri P fr code A Q := fun a w ⟨M, ok, hsl, ht⟩ => by
  have hd := hsl s (by simpa using hs)
  rw [hx] at hd
  obtain ⟨cs, e, hd⟩ := hd
  obtain ⟨v1, v2, v3, hcs, d1, d2, d3⟩ : ∃ v1 v2 v3, cs.toList = [v1, v2, v3] ∧ (Ty.nw 0 I64 Ti ws).den w (vwJ J M) v1 ∧ (Ty.int .i64 n).den w M v2 ∧ (Ty.nw 0 E Tr rows).den w (vwJ J M) v3 := by
    match hc : cs.toList, hd with
    | [v1, v2, v3], ⟨a, b, c, _⟩ => exact ⟨v1, v2, v3, rfl, a, b, c⟩
  obtain ⟨u, hu⟩ : ∃ u, tg = u + 1 := ⟨tg - 1, by omega⟩
  let R : Option Nat := match v3 with | .slice (some ad) _ _ => some ad.block | _ => none
  let M' : Tags := fun b => if some b = R then some tg else if M b = some tg then none else M b
  have hRJ : ∀ b, some b = R → M b = some J ∧ ∃ cur, w.heap[b]? = some (.cells cur Tr (0, 0)) := by
    intro b hb
    rcases d3 with ⟨_, rfl⟩ | ⟨g, cur, c, rfl, _, _, _, hg, hh, _⟩
    · exact absurd hb (by simp [R])
    · have : b = g := by simpa [R] using hb
      subst this
      exact ⟨vwJ_none.1 hg, cur, hh⟩
  have hMi : ∀ g cur, w.heap[g]? = some (.cells cur Ti (0, 0)) → M g = some J → M' g = some J := by
    intro g cur hh hg
    have h1' : ¬ some g = R := fun hr => by
      obtain ⟨_, cur', hh'⟩ := hRJ g hr
      rw [hh] at hh'
      injection hh' with hh'
      injection hh' with _ hT'
      subst hT'; simp at hT
    have h2' : ¬ M g = some tg := fun h => by rw [hg] at h; injection h with h; omega
    show (if some g = R then some tg else if M g = some tg then none else M g) = some J; rw [if_neg h1', if_neg h2', hg]
  have le : Le (· ∈ ([] : List Nat)) (· ∈ [tg, J]) w M w M' := by
    refine ⟨Nat.le_refl _, rfl, rfl, rfl, fun b _ hm => ⟨?_, rfl⟩, fun b t hm ht => ⟨?_, fun _ => rfl⟩⟩
    · have h1' : ¬ some b = R := fun hr => by have := (hRJ b hr).1; rw [hm] at this; cases this
      have h2' : ¬ M b = some tg := fun h => by rw [hm] at h; cases h
      show (if some b = R then some tg else if M b = some tg then none else M b) = none; rw [if_neg h1', if_neg h2', hm]
    · simp only [List.mem_cons, List.not_mem_nil, or_false, not_or] at ht
      have h1' : ¬ some b = R := fun hr => by have := (hRJ b hr).1; rw [hm] at this; injection this with this; exact ht.2 this
      have h2' : ¬ M b = some tg := fun h => by rw [hm] at h; injection h with h; exact ht.1 h
      show (if some b = R then some tg else if M b = some tg then none else M b) = some t; rw [if_neg h1', if_neg h2', hm]
  have wf' : Wf w M' := by
    refine ⟨fun b t h => ?_, fun b b' t ht1 h h' => ?_, ok.wf.amb.of fun b hb hm => le.pub b hb hm⟩
    · simp only [M'] at h
      split at h
      · rename_i hr; exact ok.wf.lt b _ (hRJ b hr).1
      · split at h
        · cases h
        · exact ok.wf.lt b _ h
    · simp only [M'] at h h'
      split at h
      · rename_i hr
        split at h'
        · rename_i hr'
          rw [← hr] at hr'; injection hr' with hr'; exact hr'.symm
        · split at h'
          · cases h'
          · rename_i hn; rw [h] at *; exact absurd h' hn
      · split at h
        · cases h
        · rename_i hn
          split at h'
          · rw [← h'] at h; exact absurd h hn
          · split at h'
            · cases h'
            · exact ok.wf.inj b b' t ht1 h h'
  obtain ⟨T3, ys, hys, hvs, hvec, hfit⟩ : ∃ (_ : Unit) (ys : List ({v : Value // v.oneCell' = true} × Bool)), ys.length = rows.length ∧ dVs tg rows.length w M' v3 ∧ dVec XEb Tr ys w M' tg ∧ ∀ v ∈ ys.map (fun y => y.1.1), dFit w M' J v := by
    rcases d3 with ⟨hr, rfl⟩ | ⟨g, cur, c, rfl, h3, h4, _, hg, hh, _, hd⟩
    · subst hr
      exact ⟨(), [], rfl, .inl ⟨rfl, rfl⟩, .inl rfl, by simp⟩
    · obtain ⟨ys, e1, e2, e3⟩ := open_nw hE hMi hd
      have hg' : M' g = some tg := by simp [M', R]
      refine ⟨(), ys, e1, .inr ⟨g, c, hg', rfl, h3, h4⟩, .inr ⟨g, cur, hg', hh, ?_⟩, e3⟩
      have hl : (ys.flatMap XEb.tys).length = (rows.flatMap E.tys).length := by rw [flat_len, flat_len, e1, hsz]; rfl
      rw [hl]; exact e2
  refine h v1 ys hys a w ⟨M', ⟨wf', Fr.base_step ok.base (by intro _ h; cases h) (fun t ht => ?_) le, ok.size, ok.defers.step (by intro _ h; cases h) (fun t ht => ?_) le⟩, fun i hi => ?_, fun x hx => ?_⟩
  · simp only [List.mem_cons, List.not_mem_nil, or_false] at ht
    rcases ht with rfl | rfl
    · exact ⟨h1.1, by simpa using hp⟩
    · exact ⟨by omega, by simpa using hp2⟩
  · simp only [List.mem_cons, List.not_mem_nil, or_false] at ht
    rcases ht with rfl | rfl
    · exact h1.1
    · omega
  · cases hb : Nat.beq i s with
    | false =>
      simp only [hb, cond_false]
      rcases killSlots_spec [] [tg, J] A.slots i with ⟨e, hdj⟩ | ⟨_, e⟩
      · rw [e]; exact (A.slots i).mono le (safe_spec hdj).1 (safe_spec hdj).2 (hsl i hi)
      · rw [e]; trivial
    | true =>
      have : i = s := Nat.eq_of_beq_eq_true hb
      subst this
      simp only [hb, cond_true]
      refine ⟨cs, e, ?_⟩
      rw [hcs]
      exact ⟨rfl, d2, hvs, trivial⟩
  · rcases List.mem_cons.1 hx with rfl | hx
    · exact hvec
    rcases List.mem_cons.1 hx with rfl | hx
    · intro y hy
      rcases List.mem_cons.1 hy with rfl | hy
      · exact fit_nw hMi d1
      · exact hfit y hy
    · exact killTags_den le hx fun y hy _ => ht y hy
end
end Go.T

namespace Go.Proofs.YtjjndkenddigiaaGreatDoor
open Go Go.T
set_option maxHeartbeats 2000000
def BRowV (m : Nat) : El BRow := El.mk' 2 (fun r => [Ty.nw m I64 3 r.nums, Ty.bool r.struck]) (fun _ => rfl) (fun _ => ⟨rfl, rfl, rfl⟩)
def halfT (m : Nat) (b : Bool) (xs : List Int) : Ty := match b with | true => Ty.nw m I64 3 xs | false => Ty.sl I64 xs
theorem half_pub (m : Nat) (b : Bool) (xs : List Int) : (halfT m b xs).deps = [] ∧ (halfT m b xs).cdeps = [] ∧ (halfT m b xs).one = true := by cases b <;> exact ⟨rfl, rfl, rfl⟩
def BRowH (m : Nat) : El (BRow × Bool) := ⟨2, fun y => [halfT m y.2 y.1.nums, Ty.bool y.1.struck], fun _ => rfl, fun y => by
  obtain ⟨h, _, _⟩ := half_pub m y.2 y.1.nums
  simp [depsOf, h, Ty.bool], fun y => by
  obtain ⟨_, h, _⟩ := half_pub m y.2 y.1.nums
  simp [cdepsOf, h, Ty.bool], fun y => by
  obtain ⟨_, _, h⟩ := half_pub m y.2 y.1.nums
  simp [h, Ty.bool]⟩
def bokNTys (m : Nat) (b : Book) : List Ty := [Ty.nw m I64 3 b.form.widths, Ty.int .i64 b.form.lines, Ty.nw m (BRowV m) 66 b.rows]
def bokNT (m : Nat) (b : Book) : Ty := Ty.agg (bokNTys m b)
def halfL (k : Nat) (l : List BRow) : List (BRow × Bool) := (l.take k).map (fun r => (r, true)) ++ (l.drop k).map fun r => (r, false)
theorem half_0 (l : List BRow) : halfL 0 l = l.map fun r => (r, false) := rfl
theorem half_end (l : List BRow) : halfL l.length l = l.map fun r => (r, true) := by simp [halfL]
theorem half_len {k : Nat} {l : List BRow} (h : k ≤ l.length) : (halfL k l).length = l.length := by simp [halfL]; omega
theorem half_nth {k : Nat} {l : List BRow} (h : k < l.length) : nth (halfL k l) k = (nth l k, false) := by
  unfold halfL nth
  rw [List.getD_eq_getElem?_getD, List.getElem?_append_right (by simp; omega), List.length_map, List.length_take, Nat.min_eq_left (by omega), Nat.sub_self, drop_nth h]
  rfl
theorem half_set {k : Nat} {l : List BRow} (h : k < l.length) : (halfL k l).set k (⟨(nth l k).nums, (nth l k).struck⟩, true) = halfL (k + 1) l := by
  unfold halfL
  rw [drop_nth h, take_nth h, List.map_append, List.set_append, if_neg (by simp; omega), List.length_map, List.length_take, Nat.min_eq_left (by omega), Nat.sub_self, List.map_cons, List.set_cons_zero]
  simp
theorem half_flat0 (m : Nat) : ∀ l : List BRow, l.flatMap BRowE.tys = (l.map fun r => (r, false)).flatMap (BRowH m).tys
  | [] => rfl
  | r :: l => by rw [List.flatMap_cons, List.map_cons, List.flatMap_cons, half_flat0 m l]; rfl
theorem half_flat1 (m : Nat) : ∀ l : List BRow, Subs ((l.map fun r => (r, true)).flatMap (BRowH m).tys) (l.flatMap (BRowV m).tys)
  | [] => trivial
  | r :: l => by rw [List.flatMap_cons, List.map_cons, List.flatMap_cons]; exact subs_app subs_refl (half_flat1 m l)
theorem sl_half (m : Nat) (l : List BRow) : (Ty.sl BRowE l).Sub (Ty.sl (BRowH m) (l.map fun r => (r, false))) := sl_flat (by simp) (half_flat0 m l)
theorem rowV_sub (m : Nat) (r : BRow) : Subs ((BRowV m).tys r) (BRowE.tys r) := ⟨nw_sl fun _ => subs_refl, Ty.sub_refl _, trivial⟩
theorem zero_bokN {m : Nat} : (Ty.agg [Ty.ex (.slice none 0 0), Ty.int .i64 0, Ty.ex (.slice none 0 0)]).Sub (bokNT m Book.zero) := Ty.sub_agg' ⟨nw_nil, Ty.sub_refl _, nw_nil, trivial⟩
theorem rep_half {l : List BRow} {n : Nat} {x : BRow × Bool} (h : n = l.length) : (l.map fun r => (r, false)) ++ (List.replicate n x).drop (l.map fun r => (r, false)).length = halfL 0 l := by subst h; simp [half_0]
theorem zro_rowH {m : Nat} : Subs ([Value.slice none 0 0, Value.bool false].map Ty.ofVal) ((BRowH m).tys (⟨[], false⟩, false)) := ⟨Ty.nil_sl, Ty.sub_refl _, trivial⟩
attribute [local irreducible] dInt dBool dSl dPp dPtr dAgg dTup dClo dAny dEx dStr dGd dCells dVec dVs dRow dOp nth Tri Into TOps Ctr bodyPost Exit.then Exit.inBlock Code.wp Code.wpIn dPa dArr dMp dMap CtrG keepPost iterPost bodyPostM roundQ
set_option maxRecDepth 100000 in
theorem n_Clone_int (l : List Int) (h : l.length ≤ 1000) : CtrN Tryz.prog 75 [Ty.sl I64 l] (fun m => Ty.nw m I64 3 l) := by
  refine fnN_intro Tryz.func75 rfl (by decide) Tryz.ntmps75 (by exact Nat.le_of_ble_eq_true rfl) fun m w0 M0 => ?_
  refine t_seq ?_
  refine t_region ?_
  refine asX rfl ?_
  refine r_nil ?_
  refine i_then ?_
  refine t_seq ?_
  refine t_seq ?_
  refine t_region ?_
  refine mvS rfl ?_
  refine r_eqnil und22 rfl ?_
  refine r_nil ?_
  refine i_then ?_
  refine t_cond_nb rfl (fun hc1 => ?_) (fun hc1 => ?_)
  ·
    refine t_seq ?_
    refine t_region ?_
    refine asX rfl ?_
    refine r_nil ?_
    refine i_then ?_
    refine t_ret ?_
    refine i_then_ret ?_
    refine i_rpN1 rfl rfl rfl ?_
    all_goals skip
    all_goals (obtain rfl : l = [] := hc1; exact retN_of (ret_sub rfl rfl nw_nil))
  ·
    refine t_skip ?_
    refine i_then ?_
    refine t_seq ?_
    refine t_region ?_
    refine r_buildRow (E := I64) rfl rfl rfl rfl ?_
    refine mvS rfl ?_
    refine r_append rfl rfl (by decide) rfl rfl rfl rfl rfl rfl (by decide) (by (simp <;> omega)) (by (simp <;> omega)) ?_
    refine asR rfl ?_
    refine r_nil ?_
    refine i_then ?_
    refine t_ret ?_
    refine i_rpN1 rfl rfl rfl ?_
    all_goals skip
    all_goals exact retN_row (by decide) (by decide) rfl subs_refl
attribute [local irreducible] canR nextR stepQ runP runN rdK wholeR parV
end Go.Proofs.YtjjndkenddigiaaGreatDoor

namespace Go.T
open Go Go.RowKit
theorem lo_give {ρ : List (Nat × Nat)} (hr : reOk ρ = true) {m : Nat} {w : World} {M : Tags} (h : (Cont.lo m).den w M 4998) : (Cont.lo m).den w (giveG ρ M) 4998 := by
  refine ⟨h.1, fun b hb => ?_⟩
  rcases h.2 b hb with h | h
  · exact .inl (giveG_none h)
  · refine .inr (giveG_out h ?_)
    cases hl : ρ.lookup 0 with
    | none => rfl
    | some g => have := (reOk_spec hr _ (lookup_mem' hl)).1; omega
section
variable {P : Program} {fr : Fr} {ops : Array Oper} {A : As} {rest : List Oper} {K : As → List (As × Fx) → Prop} {t : TypeId} {p : String} {e : Array Edge}
def fxGN (d : Option Nat) (res : Ty) (ρ : List (Nat × Nat)) (mv : List Nat) (sets : List (Nat × Cont)) (rs : List Nat) : Fx := { d := d, ty := res, S := ρ.map Prod.fst, K := mv, sets := sets, rs := rs, rt := 4998 :: ρ.map Prod.fst }
theorem r_callGN (ρ : List (Nat × Nat)) (mv : List Nat) (sets : List (Nat × Cont)) {m : Nat} {f : FuncId} {F : List Nat} {pre post : List (Nat × Cont)} {args ss : List Ty} {res res' : Ty} (hF : CtrG P f F ((4998, .lo m) :: pre) args post res) {dst : Option Nat} {xs : List Operand} {ats : Array TypeId}
    (hlo : A.tag 4998 = some (.lo m)) (hx : opsTy A fr xs = ss) (hok : gOk fr ρ mv F = true) (ha : Convs ρ ss args) (hpre : PreCs A ρ pre) (hpost : PostCs post ρ sets) (hres : Conv (swapRe ρ) res res')
    (h : TOps P fr ops rest (A.after (fxGN dst res' ρ mv sets (xs.flatMap opR))) fun A' l => K A' ((A, fxGN dst res' ρ mv sets (xs.flatMap opR)) :: l)) : TOps P fr ops (⟨dst, .call ⟨.value (.func f), xs.toArray, ats⟩, t, p, e, none⟩ :: rest) A K := by
  refine ⟨_, ?_, h⟩
  simp only [gOk, Bool.and_eq_true] at hok
  obtain ⟨hr, hmv, hmr⟩ := hok
  simp only [List.all_eq_true, Bool.or_eq_true, List.contains_iff_mem] at hmv
  simp only [List.all_eq_true, Bool.and_eq_true, Nat.ble_eq, List.any_eq_true, beq_iff_eq, Bool.not_eq_true', ← Bool.not_eq_true, List.contains_iff_mem] at hmr
  refine ⟨rfl, fun x hx => .inl (post_tags hpost x hx), fun u hu => ?_, fun u hu => ⟨(hmr u hu).1, (hmr u hu).2.1⟩, fun a w M wf _ hrd htg => ?_⟩
  · obtain ⟨x, hx, rfl⟩ := List.mem_map.1 hu
    exact (reOk_spec hr x hx).1
  rw [if_pos (by simp [Region.wanted])]
  obtain ⟨vs, hrun, hd⟩ := run_call_hrun hF hx a w M wf hrd
  have wfg := giveG_wf hr wf
  have htg' : ∀ x ∈ A.tags, x.1 ∈ ρ.map Prod.fst → x.2.den w M x.1 := fun x hx h => htg x hx (List.mem_cons_of_mem _ h)
  have hlo' : (Cont.lo m).den w M 4998 := htg _ (tag_mem hlo) List.mem_cons_self
  have hc := hF.2 w _ vs wfg (convs_dens wf wfg (giveG_re hr) ha hd) (fun x hx => by
    rcases List.mem_cons.1 hx with rfl | hx
    · exact lo_give hr hlo'
    · exact pre_get wf wfg (giveG_re hr) htg' hpre x hx)
  refine wp_in_enter hrun ?_
  refine hc.mono fun en w' ⟨r, M', he, wf', le, hden, hp⟩ => ?_
  obtain ⟨h1, h2, h3⟩ := callG_left (mv := mv) hr hmv (fun u hu => by obtain ⟨x, hx, e⟩ := (hmr u hu).2.2; exact ⟨x.2, by rw [← e]; exact hx⟩) wf wf' le
  exact ⟨r, he, r, rfl, _, h1, h2, hres _ _ _ _ wf' h1 h3 hden, fun x hx => (post_get wf' h1 h3 hp hpost x hx).2⟩
end
end Go.T
