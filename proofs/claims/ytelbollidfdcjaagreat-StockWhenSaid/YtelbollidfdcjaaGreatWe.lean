/- Lemmas: the program and the reference walked, plain laws. -/
import Derived.Test.YtelbollidfdcjaaGreatWd
namespace Go.Proofs.YtelbollidfdcjaaGreat
open Go Go.T
set_option maxHeartbeats 16000000
structure ShIx (h : List Int → Bool) (many lim : Nat) (l : List Int) (i0 : Nat) (o0 : List Int) where
  i : Nat
  o : List Int
  ge : i0 ≤ i
  le : i ≤ lim
  same : visM h many (lim - i0) l i0 o0 = visM h many (lim - i) l i o
section
variable {h : List Int → Bool} {many lim i0 k : Nat} {l o0 : List Int}
theorem ShIx.nat (x : ShIx h many lim l i0 o0) (hi : (x.i : Int) < (lim : Int)) : x.i < lim := by omega
def ShIx.next (x : ShIx h many lim l i0 o0) (hi : (x.i : Int) < (lim : Int)) (hg : (goM h many lim (l ++ [(x.i : Int)]) (x.i + 1) x.o).1 = false) : ShIx h many lim l i0 o0 :=
  ⟨x.i + 1, (goM h many lim (l ++ [(x.i : Int)]) (x.i + 1) x.o).2, by have := x.ge; omega, by omega, by rw [x.same, vis_step (x.nat hi), if_neg (by rw [hg]; decide)]⟩
theorem ShIx.found (x : ShIx h many lim l i0 o0) (hm : ¬ l.length = many) (hi : (x.i : Int) < (lim : Int)) (hg : (goM h many lim (l ++ [(x.i : Int)]) (x.i + 1) x.o).1 = true) : goM h many lim l i0 o0 = goM h many lim (l ++ [(x.i : Int)]) (x.i + 1) x.o := by
  rw [go_ne hm, x.same, vis_step (x.nat hi), if_pos hg]
theorem ShIx.stop (x : ShIx h many lim l i0 o0) (hm : ¬ l.length = many) (hi : ¬ (x.i : Int) < (lim : Int)) : goM h many lim l i0 o0 = (false, x.o) := by
  rw [go_ne hm, x.same, vis_end (by omega)]
def shB (h : List Int → Bool) (lim : Nat) : Bool := (shortM h lim).isSome
def shV (h : List Int → Bool) (lim : Nat) : List Int := (shortM h lim).getD []
theorem sh_yes {k : Nat} (h0 : NoneS h lim k) (hk : k ≤ lim) (h1 : (goM h k lim [] 0 []).1 = true) : true = shB h lim ∧ (goM h k lim [] 0 []).2 = shV h lim := by
  unfold shB shV; rw [short_some h0 hk h1]; exact ⟨rfl, rfl⟩
theorem sh_no {k : Nat} (h0 : NoneS h lim k) (hk : k ≤ lim + 1) (h1 : ¬ (k : Int) < (lim : Int) + 1) : false = shB h lim ∧ [] = shV h lim := by
  unfold shB shV; rw [short_none h0 (by omega)]; exact ⟨rfl, rfl⟩
theorem len_int (h : ((l.length : Nat) : Int) = (many : Nat)) : l.length = many := by omega
theorem len_int' (h : ¬ ((l.length : Nat) : Int) = (many : Nat)) : ¬ l.length = many := by omega
end
theorem more_conv {ρ : List (Nat × Nat)} {th : Ty} {h1 : th.deps = []} {h2 : th.cdeps = []} {many lim a b : Nat} (e0 : (a, 1000) ∈ ρ) (e1 : (b, 1001) ∈ ρ) : Convs ρ [Ty.clo 171 [Ty.pp [Ty.int .i64 (many : Nat)], Ty.ptr a 0, Ty.pp [Ty.nd th h1 h2], Ty.pp [Ty.int .i64 (lim : Nat)], Ty.ptr b 0]] [Ty.clo 171 [Ty.pp [Ty.int .i64 (many : Nat)], Ty.ptr 1000 0, Ty.pp [Ty.nd th h1 h2], Ty.pp [Ty.int .i64 (lim : Nat)], Ty.ptr 1001 0]] :=
  cv_cons cv_nil (cv_clo (cv_cons (cv_cons (cv_cons (cv_cons (cv_cons cv_nil (cv_ptr e1)) (cv_pub rfl rfl)) (cv_pub rfl rfl)) (cv_ptr e0)) (cv_pub rfl rfl)))
abbrev morePre (th : Ty) (h1 : th.deps = []) (h2 : th.cdeps = []) (many lim : Nat) (o : List Int) : List (Nat × Cont) := [(1000, Cont.cells 28 [Ty.sl I64 o]), (1001, Cont.cells 122 [Ty.clo 171 [Ty.pp [Ty.int .i64 (many : Nat)], Ty.ptr 1000 0, Ty.pp [Ty.nd th h1 h2], Ty.pp [Ty.int .i64 (lim : Nat)], Ty.ptr 1001 0]])]
theorem more_rc {A : As} {th : Ty} {h1 : th.deps = []} {h2 : th.cdeps = []} {many lim : Nat} {o o' : List Int} (e0 : A.tag 1000 = some (Cont.cells 28 [Ty.sl I64 o])) (e1 : A.tag 1001 = some (Cont.cells 122 [Ty.clo 171 [Ty.pp [Ty.int .i64 (many : Nat)], Ty.ptr 1000 0, Ty.pp [Ty.nd th h1 h2], Ty.pp [Ty.int .i64 (lim : Nat)], Ty.ptr 1001 0]])) (e : o = o') : RetCs A [1000, 1001] (morePre th h1 h2 many lim o') := by
  subst e; exact rc_cons e0 (cc_cells (by decide) (cv_cons cv_nil (cv_pub rfl rfl))) (rc_cons e1 (cc_cells (by decide) (more_conv (by decide) (by decide))) rc_nil)
attribute [local irreducible] dInt dBool dSl dPp dPtr dAgg dTup dClo dAny dEx dStr dGd dCells dVec dVs dRow dOp nth Tri Into TOps Ctr bodyPost Exit.then Exit.inBlock Code.wp Code.wpIn dWhen dPa dPe dAo dArr dMp dPm dMap dCJ CtrG CtrI OpY keepPost iterPost bodyPostM roundQ
attribute [local irreducible] goM visM
set_option maxRecDepth 100000 in
theorem k_Clone_int (l : List Int) (h : l.length ≤ 1000) : CtrG Tryz.prog 172 [] [] [Ty.sl I64 l] [] (Ty.row I64 3 6 l) := by
  refine fnG_intro Tryz.func172 rfl (by decide) Tryz.ntmps172 (by exact Nat.le_of_ble_eq_true rfl) fun w0 M0 => ?_
  refine t_seq ?_
  refine t_region ?_
  refine asX rfl ?_
  refine r_nil ?_
  refine i_then ?_
  refine t_seq ?_
  refine t_seq ?_
  refine t_region ?_
  refine mvS rfl ?_
  refine r_eqnil und28 rfl ?_
  refine r_nil ?_
  refine i_then ?_
  refine t_cond_nb rfl (fun hc1 => ?_) (fun hc1 => ?_)
  ·
    refine t_seq ?_
    refine t_region ?_
    refine asX rfl ?_
    refine r_nil ?_
    refine i_then ?_
    refine t_ret ?_
    refine i_then_ret ?_
    refine g_ret1 [6] rfl rfl (by decide) (by repeat (exact rc_nil)) ?_
    all_goals skip
    all_goals (obtain rfl : l = [] := hc1; exact rg_cv cv_nilrow)
  ·
    refine t_skip ?_
    refine i_then ?_
    refine t_seq ?_
    refine t_region ?_
    refine r_buildRow (E := I64) rfl rfl rfl rfl ?_
    refine mvS rfl ?_
    refine r_append rfl rfl (by decide) rfl rfl rfl rfl rfl rfl (by decide) (by (simp <;> omega)) (by (simp <;> omega)) ?_
    refine asR rfl ?_
    refine r_nil ?_
    refine i_then ?_
    refine t_ret ?_
    refine g_ret1 [6] rfl rfl (by decide) (by repeat (exact rc_nil)) ?_
    all_goals skip
    all_goals exact rg_cv (cv_row (by decide))
set_option maxRecDepth 100000 in
theorem c_more (th : Ty) (h1 : th.deps = []) (h2 : th.cdeps = []) (h : List Int → Bool) (hf : ∀ l, Cal Tryz.prog (Ty.nd th h1 h2) [Ty.sl I64 l] (Ty.bool (h l))) (many lim : Nat) (hmn : many ≤ 1000) (hlm : lim ≤ 1000) (d : Nat) (l : List Int) (i : Nat) (o : List Int) (hi : i ≤ lim) (hll : l.length ≤ many) (hd : lim - i < d) : CtrG Tryz.prog 171 [1000, 1001] (morePre th h1 h2 many lim o) [Ty.row I64 3 1002 l, Ty.int .i64 (i : Nat), Ty.pp [Ty.int .i64 (many : Nat)], Ty.ptr 1000 0, Ty.pp [Ty.nd th h1 h2], Ty.pp [Ty.int .i64 (lim : Nat)], Ty.ptr 1001 0] (morePre th h1 h2 many lim (goM h many lim l i o).2) (Ty.bool (goM h many lim l i o).1) := by
  induction d generalizing l i o
  case zero => exact absurd hd (by omega)
  rename_i d ih
  refine fnG_intro Tryz.func171 rfl (by decide) Tryz.ntmps171 (by exact Nat.le_of_ble_eq_true rfl) fun w0 M0 => ?_
  refine t_seq ?_
  refine t_pub (tg := 1002) [(0, Ty.sl I64 l)] (by decide) rfl ⟨pub_row rfl, trivial⟩ ?_
  refine t_region ?_
  refine asB rfl ?_
  refine r_nil ?_
  refine i_then ?_
  refine t_seq ?_
  refine t_seq ?_
  refine t_region ?_
  refine mvS rfl ?_
  refine r_len rfl rfl rfl ?_
  refine r_load_pp rfl rfl rfl rfl ?_
  refine r_bin rfl rfl rfl ?_
  refine r_nil ?_
  refine i_then ?_
  refine t_cond_dec rfl (fun hc1 => ?_) (fun hc1 => ?_)
  ·
    refine t_seq ?_
    refine t_region ?_
    refine mvS rfl ?_
    refine r_store1 rfl rfl (by decide) rfl rfl (by exact (rfl : _ = Ty.sl _ _)) rfl (by exact Nat.le_of_ble_eq_true rfl) rfl rfl (by exact (rfl : _ = [_])) ?_
    refine r_nil ?_
    refine i_then ?_
    refine t_seq ?_
    refine t_region ?_
    refine r_load_pp rfl rfl rfl rfl ?_
    refine mvS rfl ?_
    refine r_callc rfl (hf l) rfl ?_
    refine asB rfl ?_
    refine r_nil ?_
    refine i_then ?_
    refine t_ret ?_
    refine i_then_ret ?_
    refine g_ret1 [1000, 1001] rfl rfl (by decide) ?_ ?_
    · exact more_rc rfl rfl (congrArg Prod.snd (go_eq (len_int hc1))).symm
    all_goals skip
    all_goals exact rg_cv (cv_eq rfl rfl (congrArg Ty.bool (congrArg Prod.fst (go_eq (len_int hc1))).symm))
  ·
    refine t_skip ?_
    refine i_then ?_
    refine t_seq ?_
    refine t_seq ?_
    have hlm2 := len_int' hc1
    refine t_region ?_
    refine mvI rfl ?_
    refine asI rfl ?_
    refine r_nil ?_
    refine i_then ?_
    refine t_block ?_
    refine t_loop (fun (x : ShIx h many lim l i o) => live [(0, Ty.sl I64 l), (2, Ty.pp [Ty.int .i64 (many : Nat)]), (3, Ty.ptr 1000 0), (4, Ty.pp [Ty.nd th h1 h2]), (5, Ty.pp [Ty.int .i64 (lim : Nat)]), (6, Ty.ptr 1001 0), (10, Ty.int .i64 (x.i : Nat))] [(1000, Cont.cells 28 [Ty.sl I64 x.o]), (1001, Cont.cells 122 [Ty.clo 171 [Ty.pp [Ty.int .i64 (many : Nat)], Ty.ptr 1000 0, Ty.pp [Ty.nd th h1 h2], Ty.pp [Ty.int .i64 (lim : Nat)], Ty.ptr 1001 0]])]) (fun x => lim - x.i) (⟨i, o, Nat.le_refl _, hi, rfl⟩) ?_ fun x => ?_
    · (refine Ent.mk' ?_ ?_ <;> (repeat' (first | exact allSub_zero | exact allTags_nil | refine allSub_succ' ?_ (Ty.sub_any _) | refine allSub_succ' ?_ (Ty.sub_refl _) | refine allTags_cons rfl (Cont.sub_refl _) ?_)))
    ·
      have hxl := x.le
      refine t_seq ?_
      refine t_seq ?_
      refine t_region ?_
      refine mvI rfl ?_
      refine r_load_pp rfl rfl rfl rfl ?_
      refine r_bin rfl rfl rfl ?_
      refine r_nil ?_
      refine i_then ?_
      refine t_cond_dec rfl (fun hc2 => ?_) (fun hc2 => ?_)
      ·
        refine t_skip ?_
        refine i_then ?_
        refine t_seq ?_
        refine t_block ?_
        refine t_seq ?_
        refine t_draw mixed rfl ?_
        refine r_load_ptr rfl rfl (by decide) rfl rfl rfl ?_
        refine mvS rfl ?_
        refine r_callG (res' := Ty.row I64 3 27 l) [(27, 6)] [27] [] (k_Clone_int l (by omega)) rfl rfl (by repeat (first | exact cv_nil | refine cv_cons ?_ ?_ | exact cv_pub rfl rfl)) pre_nil post_nil (cv_row (by exact List.mem_cons_self)) ?_
        refine mvI rfl ?_
        refine r_buildSlice (E := I64) (xs := [(x.i : Int)]) rfl rfl rfl rfl rfl (by decide) (by decide) (by repeat (first | exact (Parts.nil : Parts _ _ [] _) | (show Parts _ _ ((_, _) :: _) _; apply Parts.one; (· exact (rfl : _ = Ty.int _ _)); (· exact rfl)))) (by exact rfl) rfl ?_
        refine r_append rfl rfl (by decide) rfl rfl rfl rfl rfl rfl (by decide) (by (simp <;> omega)) (by (simp <;> omega)) ?_
        refine mvI rfl ?_
        refine r_add rfl rfl (by omega) (by omega) ?_
        refine r_callvG [(1000, 1000), (1001, 1001), (27, 1002)] [27] (morePre th h1 h2 many lim (goM h many lim (l ++ [(x.i : Int)]) (x.i + 1) x.o).2) rfl (ih (l ++ [(x.i : Int)]) (x.i + 1) x.o (by omega) (by rw [List.length_append]; show l.length + 1 ≤ many; omega) (by have := x.ge; omega)) rfl rfl (cv_cons (cv_cons (cv_cons (cv_cons (cv_cons (cv_cons (cv_cons cv_nil (cv_ptr (by decide))) (cv_pub rfl rfl)) (cv_pub rfl rfl)) (cv_ptr (by decide))) (cv_pub rfl rfl)) (cv_pub rfl rfl)) (cv_row (by decide))) (pre_cons (a := 1000) (b := 1000) (by decide) rfl (cc_cells (by decide) (cv_cons cv_nil (cv_pub rfl rfl))) (pre_cons (a := 1001) (b := 1001) (by decide) rfl (cc_cells (by decide) (more_conv (by decide) (by decide))) pre_nil)) (post_cons (a := 1000) (b := 1000) (by decide) rfl (cc_cells (by decide) (cv_cons cv_nil (cv_pub rfl rfl))) (post_cons (a := 1001) (b := 1001) (by decide) rfl (cc_cells (by decide) (more_conv (by decide) (by decide))) post_nil)) (cv_pub rfl rfl) ?_
        refine r_nil ?_
        refine ⟨by kernel_rfl, ?_⟩
        refine i_then ?_
        refine t_cond rfl (fun hc3 => ?_) (fun hc3 => ?_)
        ·
          refine t_seq ?_
          refine t_region ?_
          refine asB rfl ?_
          refine r_nil ?_
          refine i_then ?_
          refine t_ret ?_
          refine i_block_ret ?_
          refine i_then_ret ?_
          refine i_then_ret ?_
          refine i_block_ret ?_
          refine i_then_ret ?_
          refine g_ret1 [1000, 1001] rfl rfl (by decide) ?_ ?_
          · exact more_rc rfl rfl (congrArg Prod.snd (x.found hlm2 hc2 hc3)).symm
          all_goals skip
          all_goals exact rg_cv (cv_eq rfl rfl (congrArg Ty.bool (hc3.symm.trans (congrArg Prod.fst (x.found hlm2 hc2 hc3)).symm)))
        ·
          refine t_skip ?_
          refine i_block ?_
          refine i_then ?_
          refine t_region ?_
          refine mvI rfl ?_
          refine r_add rfl rfl (by omega) (by omega) ?_
          refine asI rfl ?_
          refine r_nil ?_
          refine i_round (x.next hc2 hc3) ?_ (by show lim - (x.i + 1) < lim - x.i; omega)
          (refine Ent.mk' ?_ ?_ <;> (repeat' (first | exact allSub_zero | exact allTags_nil | refine allSub_succ' ?_ (Ty.sub_any _) | refine allSub_succ' ?_ (Ty.sub_refl _) | refine allTags_cons rfl (Cont.sub_refl _) ?_)))
          all_goals skip
      ·
        refine t_exit ?_
        refine i_then_exit ?_
        refine i_then_exit ?_
        refine i_block_exit rfl ?_
        refine i_then ?_
        refine t_seq ?_
        refine t_region ?_
        refine asB rfl ?_
        refine r_nil ?_
        refine i_then ?_
        refine t_ret ?_
        refine g_ret1 [1000, 1001] rfl rfl (by decide) ?_ ?_
        · exact more_rc rfl rfl (congrArg Prod.snd (x.stop hlm2 hc2)).symm
        all_goals skip
        all_goals exact rg_cv (cv_eq rfl rfl (congrArg Ty.bool (congrArg Prod.fst (x.stop hlm2 hc2)).symm))
set_option maxRecDepth 100000 in
theorem c_shortest (th : Ty) (h1 : th.deps = []) (h2 : th.cdeps = []) (ho : th.one = true) (h : List Int → Bool) (hf : ∀ l, Cal Tryz.prog (Ty.nd th h1 h2) [Ty.sl I64 l] (Ty.bool (h l))) (lim : Nat) (hlm : lim ≤ 999) : Ctr Tryz.prog 113 [Ty.int .i64 (lim : Nat), Ty.nd th h1 h2] (Ty.tup [Ty.sl I64 (shV h lim), Ty.bool (shB h lim)]) := by
  refine fn_intro Tryz.func113 rfl (by decide) Tryz.ntmps113 (by exact Nat.le_of_ble_eq_true rfl) fun w0 M0 => ?_
  refine t_seq ?_
  refine t_region ?_
  refine r_box_one (by exact (rfl : _ = Ty.int _ _)) rfl ?_
  refine r_box_one (ty := Ty.nd th h1 h2) rfl ho ?_
  refine asX rfl ?_
  refine asB rfl ?_
  refine r_nil ?_
  refine i_then ?_
  refine t_seq ?_
  refine t_seq ?_
  refine t_region ?_
  refine r_load_pp rfl rfl rfl rfl ?_
  refine r_add rfl rfl (by omega) (by omega) ?_
  refine mvI rfl ?_
  refine r_nil ?_
  refine i_then ?_
  refine t_block ?_
  refine t_loop (fun (k : {k : Nat // k ≤ lim + 1 ∧ NoneS h lim k}) => live [(2, Ty.pp [Ty.int .i64 (lim : Nat)]), (3, Ty.pp [Ty.nd th h1 h2]), (10, Ty.int .i64 ((lim : Int) + 1)), (11, Ty.int .i64 (k.1 : Nat))] []) (fun k => lim + 1 - k.1) (⟨0, by omega, none_zero⟩) ?_ fun k => ?_
  · (refine Ent.mk' ?_ ?_ <;> (repeat' (first | exact allSub_zero | exact allTags_nil | refine allSub_succ' ?_ (Ty.sub_any _) | refine allSub_succ' ?_ (Ty.sub_refl _))))
  ·
    have hk := k.2.1
    refine t_seq ?_
    refine t_region ?_
    refine r_bin rfl rfl rfl ?_
    refine r_nil ?_
    refine i_then ?_
    refine t_seq ?_
    refine t_cond_dec rfl (fun hc1 => ?_) (fun hc1 => ?_)
    ·
      refine t_skip ?_
      refine i_then ?_
      refine t_seq ?_
      refine t_block ?_
      refine t_seq ?_
      refine t_region ?_
      refine mvI rfl ?_
      refine r_alloc rfl (by exact List.cons_ne_nil _ _) rfl ?_
      refine r_store1 rfl rfl (by decide) rfl rfl (by exact (rfl : _ = Ty.int _ _)) rfl (by exact Nat.le_of_ble_eq_true rfl) rfl rfl (by exact (rfl : _ = [_])) ?_
      refine r_nil ?_
      refine i_then ?_
      refine t_seq ?_
      refine t_pub (tg := 7) [(6, Ty.pp [Ty.int .i64 (k.1 : Nat)])] (by decide) rfl ⟨pub_ptr (T := 3) (off := 0) (l := [Ty.int .i64 (k.1 : Nat)]) rfl rfl rfl (by decide), trivial⟩ ?_
      refine t_region ?_
      refine r_alloc rfl (by exact List.cons_ne_nil _ _) rfl ?_
      refine r_nil ?_
      refine i_then ?_
      refine t_seq ?_
      refine t_region ?_
      refine r_alloc rfl (by exact List.cons_ne_nil _ _) rfl ?_
      refine r_nil ?_
      refine i_then ?_
      refine t_seq ?_
      refine t_region ?_
      refine r_makeFunc rfl ?_
      refine r_store1 rfl rfl (by decide) rfl rfl (by exact (rfl : _ = Ty.clo _ _)) rfl (by exact Nat.le_of_ble_eq_true rfl) rfl rfl (by exact (rfl : _ = [_])) ?_
      refine r_nil ?_
      refine i_then ?_
      refine t_seq ?_
      refine t_asC (tg := 8) rfl (Cont.sub_cellsL (l' := [Ty.sl I64 ([] : List Int)]) ⟨Ty.nil_sl, trivial⟩) ?_
      refine t_region ?_
      refine r_load_ptr rfl rfl (by decide) rfl rfl rfl ?_
      refine r_callvG [(8, 1000), (9, 1001)] [] [(8, Cont.cells 28 [Ty.sl I64 (goM h k.1 lim [] 0 []).2]), (9, Cont.cells 122 [Ty.clo 171 [Ty.pp [Ty.int .i64 (k.1 : Nat)], Ty.ptr 8 0, Ty.pp [Ty.nd th h1 h2], Ty.pp [Ty.int .i64 (lim : Nat)], Ty.ptr 9 0]])] rfl (c_more th h1 h2 h hf k.1 lim (by omega) (by omega) (lim + 1) [] 0 [] (by omega) (Nat.zero_le _) (by omega)) rfl rfl (cv_cons (cv_cons (cv_cons (cv_cons (cv_cons (cv_cons (cv_cons cv_nil (cv_ptr (by decide))) (cv_pub rfl rfl)) (cv_pub rfl rfl)) (cv_ptr (by decide))) (cv_pub rfl rfl)) (cv_pub rfl rfl)) cv_nilrow) (pre_cons (a := 8) (b := 1000) (by decide) rfl (cc_cells (by decide) (cv_cons cv_nil (cv_pub rfl rfl))) (pre_cons (a := 9) (b := 1001) (by decide) rfl (cc_cells (by decide) (more_conv (by decide) (by decide))) pre_nil)) (post_cons (a := 8) (b := 1000) (by decide) rfl (cc_cells (by decide) (cv_cons cv_nil (cv_pub rfl rfl))) (post_cons (a := 9) (b := 1001) (by decide) rfl (cc_cells (by decide) (cv_cons cv_nil (cv_clo (cv_cons (cv_cons (cv_cons (cv_cons (cv_cons cv_nil (cv_ptr (by decide))) (cv_pub rfl rfl)) (cv_pub rfl rfl)) (cv_ptr (by decide))) (cv_pub rfl rfl))))) post_nil)) (cv_pub rfl rfl) ?_
      refine r_nil ?_
      refine i_then ?_
      refine t_cond rfl (fun hc2 => ?_) (fun hc2 => ?_)
      ·
        refine t_seq ?_
        refine t_region ?_
        refine r_load_ptr rfl rfl (by decide) rfl rfl rfl ?_
        refine asS rfl ?_
        refine asB rfl ?_
        refine r_nil ?_
        refine i_then ?_
        refine t_ret ?_
        refine i_block_ret ?_
        refine i_then_ret ?_
        refine i_then_ret ?_
        refine i_block_ret ?_
        refine i_then_ret ?_
        refine i_rp2 rfl rfl rfl ?_ ?_
        all_goals skip
        all_goals first | exact ret_eq rfl rfl (congrArg Ty.bool (sh_yes k.2.2 (by omega) hc2).1) | exact ret_eq rfl rfl (congrArg (Ty.sl I64) (sh_yes k.2.2 (by omega) hc2).2)
      ·
        refine t_skip ?_
        refine i_block ?_
        refine i_then ?_
        refine t_region ?_
        refine r_add rfl rfl (by omega) (by omega) ?_
        refine mvI rfl ?_
        refine r_nil ?_
        refine i_round (⟨k.1 + 1, by omega, none_succ k.2.2 hc2⟩) ?_ (by show lim + 1 - (k.1 + 1) < lim + 1 - k.1; omega)
        (refine Ent.mk' ?_ ?_ <;> (repeat' (first | exact allSub_zero | exact allTags_nil | refine allSub_succ' ?_ (Ty.sub_any _) | refine allSub_succ' ?_ (Ty.sub_refl _))))
        all_goals skip
    ·
      refine t_exit ?_
      refine i_then_exit ?_
      refine i_then_exit ?_
      refine i_block_exit rfl ?_
      refine i_then ?_
      refine t_seq ?_
      refine t_region ?_
      refine asX rfl ?_
      refine asB rfl ?_
      refine r_nil ?_
      refine i_then ?_
      refine t_ret ?_
      refine i_rp2 rfl rfl rfl ?_ ?_
      all_goals skip
      all_goals first | exact ret_eq rfl rfl (congrArg Ty.bool (sh_no k.2.2 k.2.1 hc1).1) | exact ret_nil_eq (sh_no k.2.2 k.2.1 hc1).2.symm
end Go.Proofs.YtelbollidfdcjaaGreat

namespace Go.Proofs.YtelbollidfdcjaaGreat
open Go Go.T
set_option maxHeartbeats 16000000
theorem cal_nd {P : Program} {t : Ty} {h1 : t.deps = []} {h2 : t.cdeps = []} {args : List Ty} {res : Ty} (h : Cal P t args res) : Cal P (Ty.nd t h1 h2) args res := h
noncomputable def clashE (y : Yard) : Int := if checkY y = 0 then (if shB (fun l => !agreeM y (chooseL l false)) y.levels.length = true then 0 else 6) else checkY y
noncomputable def clashV (y : Yard) : List Int := if clashE y = 0 then shV (fun l => !agreeM y (chooseL l false)) y.levels.length else []
theorem clash_1 {y : Yard} (h : ¬ checkY y = 0) : checkY y = clashE y ∧ [] = clashV y := by
  have e : checkY y = clashE y := (if_neg h).symm
  exact ⟨e, by unfold clashV; rw [← e, if_neg h]⟩
theorem clash_2 {y : Yard} (h : checkY y = 0) (h2 : (!shB (fun l => !agreeM y (chooseL l false)) y.levels.length) = true) : 6 = clashE y ∧ [] = clashV y := by
  have e : 6 = clashE y := by unfold clashE; rw [if_pos h, if_neg (by rw [not_b h2]; decide)]
  exact ⟨e, by unfold clashV; rw [← e, if_neg (by decide)]⟩
theorem clash_3 {y : Yard} (h : checkY y = 0) (h2 : (!shB (fun l => !agreeM y (chooseL l false)) y.levels.length) = false) : 0 = clashE y ∧ shV (fun l => !agreeM y (chooseL l false)) y.levels.length = clashV y := by
  have e : 0 = clashE y := by unfold clashE; rw [if_pos h, if_pos (not_not_b h2)]
  exact ⟨e, by unfold clashV; rw [← e, if_pos rfl]⟩
noncomputable def wrongE (y : Yard) : Int := if checkY y = 0 then (if shB (fun l => agreeM y (chooseL l true)) y.levels.length = true then 0 else 7) else checkY y
noncomputable def wrongV (y : Yard) : List Int := if wrongE y = 0 then shV (fun l => agreeM y (chooseL l true)) y.levels.length else []
theorem wrong_1 {y : Yard} (h : ¬ checkY y = 0) : checkY y = wrongE y ∧ [] = wrongV y := by
  have e : checkY y = wrongE y := (if_neg h).symm
  exact ⟨e, by unfold wrongV; rw [← e, if_neg h]⟩
theorem wrong_2 {y : Yard} (h : checkY y = 0) (h2 : (!shB (fun l => agreeM y (chooseL l true)) y.levels.length) = true) : 7 = wrongE y ∧ [] = wrongV y := by
  have e : 7 = wrongE y := by unfold wrongE; rw [if_pos h, if_neg (by rw [not_b h2]; decide)]
  exact ⟨e, by unfold wrongV; rw [← e, if_neg (by decide)]⟩
theorem wrong_3 {y : Yard} (h : checkY y = 0) (h2 : (!shB (fun l => agreeM y (chooseL l true)) y.levels.length) = false) : 0 = wrongE y ∧ shV (fun l => agreeM y (chooseL l true)) y.levels.length = wrongV y := by
  have e : 0 = wrongE y := by unfold wrongE; rw [if_pos h, if_pos (not_not_b h2)]
  exact ⟨e, by unfold wrongV; rw [← e, if_pos rfl]⟩
attribute [local irreducible] flowsY loL Way.beg Way.fin Way.room waysQ sendM overUp overL over waysL reachM hasM lackM lackB mostL pathM sendS stuckM settleM leastL addW goalG betterM bestM cycM roundM hasUp hasV spanU loA hiA firstK Yard.kept Yard.cells checkY knownE allC toldY amtU openE bndA bndS bndE bndY movE movS hasB hasK whlA whlS whlY hasW fstE fstV wrongW inP holdUp holdsM cmB goB stepH agreeM chooseL chooseUp inL agE agV goM visM shB shV shortM
attribute [local irreducible] dInt dBool dSl dPp dPtr dAgg dTup dClo dAny dEx dStr dGd dCells dVec dVs dRow dOp nth Tri Into TOps Ctr bodyPost Exit.then Exit.inBlock Code.wp Code.wpIn dWhen dPa dPe dAo dArr dMp dPm dMap dCJ CtrG CtrI OpY keepPost iterPost bodyPostM roundQ
set_option maxRecDepth 100000 in
theorem c_Clash1 (y : Yard) (hr : y.Right) (l : List Int) : Ctr Tryz.prog 114 [Ty.sl I64 l, Ty.pp (yardTys y)] (Ty.bool ((fun l => !agreeM y (chooseL l false)) l)) := by
  refine fn_intro Tryz.func114 rfl (by decide) Tryz.ntmps114 (by exact Nat.le_of_ble_eq_true rfl) fun w0 M0 => ?_
  refine t_seq ?_
  refine t_region ?_
  refine asB rfl ?_
  refine r_nil ?_
  refine i_then ?_
  refine t_seq ?_
  refine t_region ?_
  refine r_load_ppN rfl rfl rfl (by exact Nat.le_of_ble_eq_true rfl) ?_
  refine mvS rfl ?_
  refine r_call (c_agrees y hr l false) rfl rfl rfl rfl rfl ?_
  refine r_not rfl ?_
  refine asB rfl ?_
  refine r_nil ?_
  refine i_then ?_
  refine t_ret ?_
  refine i_rp1 rfl rfl ?_
  all_goals exact ret_refl rfl rfl
  all_goals trace_state
set_option maxRecDepth 100000 in
theorem c_Clash (y : Yard) (hs : y.Small) : Ctr Tryz.prog 44 [yardT y] (Ty.tup [Ty.sl I64 (clashV y), Ty.int .i64 (clashE y)]) := by
  refine fn_intro Tryz.func44 rfl (by decide) Tryz.ntmps44 (by exact Nat.le_of_ble_eq_true rfl) fun w0 M0 => ?_
  refine t_seq ?_
  refine t_region ?_
  refine r_box_agg rfl ?_
  refine asX rfl ?_
  refine asI rfl ?_
  refine r_nil ?_
  refine i_then ?_
  refine t_seq ?_
  refine t_seq ?_
  refine t_region ?_
  refine r_load_ppN rfl rfl rfl (by exact Nat.le_of_ble_eq_true rfl) ?_
  refine r_call (c_Check y hs) rfl rfl rfl rfl rfl ?_
  refine asI rfl ?_
  refine r_nil ?_
  refine i_then ?_
  refine t_seq ?_
  refine t_region ?_
  refine mvI rfl ?_
  refine r_bin rfl rfl rfl ?_
  refine r_nil ?_
  refine i_then ?_
  refine t_cond_ndec rfl (fun hc1 => ?_) (fun hc1 => ?_)
  ·
    refine t_seq ?_
    refine t_region ?_
    refine mvI rfl ?_
    refine asX rfl ?_
    refine asI rfl ?_
    refine r_nil ?_
    refine i_then ?_
    refine t_ret ?_
    refine i_then_ret ?_
    refine i_rp2 rfl rfl rfl ?_ ?_
    all_goals skip
    all_goals first | exact ret_nil_eq (clash_1 hc1).2.symm | exact ret_eq rfl rfl (congrArg (Ty.int .i64) (clash_1 hc1).1)
  ·
    refine t_skip ?_
    refine i_then ?_
    refine t_seq ?_
    have hck : checkY y = 0 := hc1
    have hr := chk_right hck
    have h8 := hr.levels
    refine t_region ?_
    refine r_field_pp rfl rfl rfl rfl rfl (by decide) ?_
    refine r_load_pp rfl rfl rfl rfl ?_
    refine r_len rfl rfl rfl ?_
    refine r_makeFunc rfl ?_
    refine r_call (c_shortest (Ty.clo 114 [Ty.pp (yardTys y)]) rfl rfl rfl (fun l => !agreeM y (chooseL l false)) (fun l => cal_nd (cal_clo (c_Clash1 y hr l) rfl rfl rfl rfl rfl rfl)) y.levels.length (by omega)) rfl rfl rfl rfl rfl ?_
    refine mvT rfl ?_
    refine r_extract rfl rfl ?_
    refine r_extract rfl rfl ?_
    refine asS rfl ?_
    refine asB rfl ?_
    refine r_nil ?_
    refine i_then ?_
    refine t_seq ?_
    refine t_seq ?_
    refine t_region ?_
    refine mvB rfl ?_
    refine r_not rfl ?_
    refine r_nil ?_
    refine i_then ?_
    refine t_cond rfl (fun hc2 => ?_) (fun hc2 => ?_)
    ·
      refine t_seq ?_
      refine t_region ?_
      refine asX rfl ?_
      refine asI rfl ?_
      refine r_nil ?_
      refine i_then ?_
      refine t_ret ?_
      refine i_then_ret ?_
      refine i_rp2 rfl rfl rfl ?_ ?_
      all_goals skip
      all_goals first | exact ret_nil_eq (clash_2 hck hc2).2.symm | exact ret_eq rfl rfl (congrArg (Ty.int .i64) (clash_2 hck hc2).1)
    ·
      refine t_skip ?_
      refine i_then ?_
      refine t_seq ?_
      refine t_region ?_
      refine mvS rfl ?_
      refine asS rfl ?_
      refine asI rfl ?_
      refine r_nil ?_
      refine i_then ?_
      refine t_ret ?_
      refine i_rp2 rfl rfl rfl ?_ ?_
      all_goals skip
      all_goals first | exact ret_eq rfl rfl (congrArg (Ty.sl I64) (clash_3 hck hc2).2) | exact ret_eq rfl rfl (congrArg (Ty.int .i64) (clash_3 hck hc2).1)
set_option maxRecDepth 100000 in
theorem c_Wrong1 (y : Yard) (hr : y.Right) (l : List Int) : Ctr Tryz.prog 115 [Ty.sl I64 l, Ty.pp (yardTys y)] (Ty.bool ((fun l => agreeM y (chooseL l true)) l)) := by
  refine fn_intro Tryz.func115 rfl (by decide) Tryz.ntmps115 (by exact Nat.le_of_ble_eq_true rfl) fun w0 M0 => ?_
  refine t_seq ?_
  refine t_region ?_
  refine asB rfl ?_
  refine r_nil ?_
  refine i_then ?_
  refine t_seq ?_
  refine t_region ?_
  refine r_load_ppN rfl rfl rfl (by exact Nat.le_of_ble_eq_true rfl) ?_
  refine mvS rfl ?_
  refine r_call (c_agrees y hr l true) rfl rfl rfl rfl rfl ?_
  refine asB rfl ?_
  refine r_nil ?_
  refine i_then ?_
  refine t_ret ?_
  refine i_rp1 rfl rfl ?_
  all_goals exact ret_refl rfl rfl
  all_goals trace_state
set_option maxRecDepth 100000 in
theorem c_Wrong (y : Yard) (hs : y.Small) : Ctr Tryz.prog 45 [yardT y] (Ty.tup [Ty.sl I64 (wrongV y), Ty.int .i64 (wrongE y)]) := by
  refine fn_intro Tryz.func45 rfl (by decide) Tryz.ntmps45 (by exact Nat.le_of_ble_eq_true rfl) fun w0 M0 => ?_
  refine t_seq ?_
  refine t_region ?_
  refine r_box_agg rfl ?_
  refine asX rfl ?_
  refine asI rfl ?_
  refine r_nil ?_
  refine i_then ?_
  refine t_seq ?_
  refine t_seq ?_
  refine t_region ?_
  refine r_load_ppN rfl rfl rfl (by exact Nat.le_of_ble_eq_true rfl) ?_
  refine r_call (c_Check y hs) rfl rfl rfl rfl rfl ?_
  refine asI rfl ?_
  refine r_nil ?_
  refine i_then ?_
  refine t_seq ?_
  refine t_region ?_
  refine mvI rfl ?_
  refine r_bin rfl rfl rfl ?_
  refine r_nil ?_
  refine i_then ?_
  refine t_cond_ndec rfl (fun hc1 => ?_) (fun hc1 => ?_)
  ·
    refine t_seq ?_
    refine t_region ?_
    refine mvI rfl ?_
    refine asX rfl ?_
    refine asI rfl ?_
    refine r_nil ?_
    refine i_then ?_
    refine t_ret ?_
    refine i_then_ret ?_
    refine i_rp2 rfl rfl rfl ?_ ?_
    all_goals skip
    all_goals first | exact ret_nil_eq (wrong_1 hc1).2.symm | exact ret_eq rfl rfl (congrArg (Ty.int .i64) (wrong_1 hc1).1)
  ·
    refine t_skip ?_
    refine i_then ?_
    refine t_seq ?_
    have hck : checkY y = 0 := hc1
    have hr := chk_right hck
    have h8 := hr.levels
    refine t_region ?_
    refine r_field_pp rfl rfl rfl rfl rfl (by decide) ?_
    refine r_load_pp rfl rfl rfl rfl ?_
    refine r_len rfl rfl rfl ?_
    refine r_makeFunc rfl ?_
    refine r_call (c_shortest (Ty.clo 115 [Ty.pp (yardTys y)]) rfl rfl rfl (fun l => agreeM y (chooseL l true)) (fun l => cal_nd (cal_clo (c_Wrong1 y hr l) rfl rfl rfl rfl rfl rfl)) y.levels.length (by omega)) rfl rfl rfl rfl rfl ?_
    refine mvT rfl ?_
    refine r_extract rfl rfl ?_
    refine r_extract rfl rfl ?_
    refine asS rfl ?_
    refine asB rfl ?_
    refine r_nil ?_
    refine i_then ?_
    refine t_seq ?_
    refine t_seq ?_
    refine t_region ?_
    refine mvB rfl ?_
    refine r_not rfl ?_
    refine r_nil ?_
    refine i_then ?_
    refine t_cond rfl (fun hc2 => ?_) (fun hc2 => ?_)
    ·
      refine t_seq ?_
      refine t_region ?_
      refine asX rfl ?_
      refine asI rfl ?_
      refine r_nil ?_
      refine i_then ?_
      refine t_ret ?_
      refine i_then_ret ?_
      refine i_rp2 rfl rfl rfl ?_ ?_
      all_goals skip
      all_goals first | exact ret_nil_eq (wrong_2 hck hc2).2.symm | exact ret_eq rfl rfl (congrArg (Ty.int .i64) (wrong_2 hck hc2).1)
    ·
      refine t_skip ?_
      refine i_then ?_
      refine t_seq ?_
      refine t_region ?_
      refine mvS rfl ?_
      refine asS rfl ?_
      refine asI rfl ?_
      refine r_nil ?_
      refine i_then ?_
      refine t_ret ?_
      refine i_rp2 rfl rfl rfl ?_ ?_
      all_goals skip
      all_goals first | exact ret_eq rfl rfl (congrArg (Ty.sl I64) (wrong_3 hck hc2).2) | exact ret_eq rfl rfl (congrArg (Ty.int .i64) (wrong_3 hck hc2).1)
end Go.Proofs.YtelbollidfdcjaaGreat

namespace Go.Proofs.YtelbollidfdcjaaGreat
open Go Go.T
theorem spn_eq (a b : Span) : (decide (a.lo = b.lo) && decide (a.hi = b.hi)) = decide (a = b) := by
  cases a; cases b; rw [Bool.eq_iff_iff]; simp
end Go.Proofs.YtelbollidfdcjaaGreat

namespace Go.Proofs.YtelbollidfdcjaaGreat
open Go Go.T
set_option maxHeartbeats 2000000
attribute [local irreducible] dInt dBool dSl dPp dPtr dAgg dTup dClo dAny dEx dStr dGd dCells dVec dVs dRow dOp nth Tri Into TOps Ctr bodyPost Exit.then Exit.inBlock Code.wp Code.wpIn dWhen dPa dPe dAo dArr dMp dPm dMap dCJ CtrG CtrI OpY keepPost iterPost bodyPostM roundQ
set_option maxRecDepth 100000 in
theorem c_Equal_int (a b : List Int) : Ctr Tryz.prog 116 [Ty.sl I64 a, Ty.sl I64 b] (Ty.bool (decide (a = b))) := by
  refine fn_intro Tryz.func116 rfl (by decide) Tryz.ntmps116 (by exact Nat.le_of_ble_eq_true rfl) fun w0 M0 => ?_
  refine t_fact (s := 0) rfl rfl sl_len fun ha => ?_
  refine t_fact (s := 1) rfl rfl sl_len fun hb => ?_
  refine t_seq ?_
  refine t_region ?_
  refine asB rfl ?_
  refine r_nil ?_
  refine i_then ?_
  refine t_seq ?_
  refine t_seq ?_
  refine t_region ?_
  refine mvS rfl ?_
  refine r_len rfl rfl rfl ?_
  refine mvS rfl ?_
  refine r_len rfl rfl rfl ?_
  refine r_bin rfl rfl rfl ?_
  refine r_nil ?_
  refine i_then ?_
  refine t_cond_ndec rfl (fun hc1 => ?_) (fun hc1 => ?_)
  ·
    try (simp only [Classical.not_not] at hc1)
    refine t_seq ?_
    refine t_region ?_
    refine asB rfl ?_
    refine r_nil ?_
    refine i_then ?_
    refine t_ret ?_
    refine i_then_ret ?_
    refine i_rp1 rfl rfl ?_
    all_goals skip
    exact ret_eq rfl rfl (congrArg Ty.bool (by rw [eq_comm, decide_eq_false_iff_not]; intro e; subst e; exact hc1 rfl))
  ·
    try (simp only [Classical.not_not] at hc1)
    refine t_skip ?_
    refine i_then ?_
    refine t_seq ?_
    refine t_seq ?_
    refine t_region ?_
    refine mvS rfl ?_
    refine r_len rfl rfl rfl ?_
    refine mvI rfl ?_
    refine r_nil ?_
    refine i_then ?_
    refine t_block ?_
    refine t_loop (fun (k : {k : Nat // a.take k = b.take k}) => live [(0, Ty.sl I64 a), (1, Ty.sl I64 b), (12, Ty.int .i64 a.length), (13, Ty.int .i64 (k.1 : Nat))] []) (fun k => a.length - k.1) (⟨0, by simp⟩) ?_ fun k => ?_
    · (refine Ent.mk' ?_ ?_ <;> (repeat' (first | exact allSub_zero | exact allTags_nil | refine allSub_succ' ?_ (Ty.sub_any _) | refine allSub_succ' ?_ (Ty.sub_refl _))))
    ·
      have hlen : a.length = b.length := by omega
      refine t_seq ?_
      refine t_region ?_
      refine r_bin rfl rfl rfl ?_
      refine r_nil ?_
      refine i_then ?_
      refine t_seq ?_
      refine t_cond_dec rfl (fun hc2 => ?_) (fun hc2 => ?_)
      ·
        try (simp only [Classical.not_not] at hc2)
        refine t_skip ?_
        refine i_then ?_
        refine t_seq ?_
        refine t_block ?_
        refine t_seq ?_
        refine t_region ?_
        refine mvI rfl ?_
        refine asI rfl ?_
        refine r_nil ?_
        refine i_then ?_
        refine t_seq ?_
        refine t_draw mixed rfl ?_
        refine mvS rfl ?_
        refine mvI rfl ?_
        refine r_index_slN rfl rfl rfl rfl rfl rfl (by omega) ?_
        refine r_load_pp rfl rfl rfl rfl ?_
        refine mvS rfl ?_
        refine mvI rfl ?_
        refine r_index_slN rfl rfl rfl rfl rfl rfl (by omega) ?_
        refine r_load_pp rfl rfl rfl rfl ?_
        refine r_bin rfl rfl rfl ?_
        refine r_nil ?_
        refine ⟨by kernel_rfl, ?_⟩
        refine i_then ?_
        refine t_cond_ndec rfl (fun hc3 => ?_) (fun hc3 => ?_)
        ·
          try (simp only [Classical.not_not] at hc3)
          refine t_seq ?_
          refine t_region ?_
          refine asB rfl ?_
          refine r_nil ?_
          refine i_then ?_
          refine t_ret ?_
          refine i_block_ret ?_
          refine i_then_ret ?_
          refine i_then_ret ?_
          refine i_block_ret ?_
          refine i_then_ret ?_
          refine i_rp1 rfl rfl ?_
          all_goals skip
          exact ret_eq rfl rfl (congrArg Ty.bool (by rw [eq_comm, decide_eq_false_iff_not]; exact ne_of_nth (k := k.1) (hc3)))
        ·
          try (simp only [Classical.not_not] at hc3)
          refine t_skip ?_
          refine i_block ?_
          refine i_then ?_
          refine t_region ?_
          refine r_add rfl rfl (by omega) (by omega) ?_
          refine mvI rfl ?_
          refine r_nil ?_
          refine i_round (⟨k.1 + 1, by rw [take_nth (by omega), take_nth (by omega), k.2, hc3]⟩) ?_ (by show a.length - (k.1 + 1) < a.length - k.1; omega)
          (refine Ent.mk' ?_ ?_ <;> (repeat' (first | exact allSub_zero | exact allTags_nil | refine allSub_succ' ?_ (Ty.sub_any _) | refine allSub_succ' ?_ (Ty.sub_refl _))))
          all_goals skip
      ·
        try (simp only [Classical.not_not] at hc2)
        refine t_exit ?_
        refine i_then_exit ?_
        refine i_then_exit ?_
        refine i_block_exit rfl ?_
        refine i_then ?_
        refine t_seq ?_
        refine t_region ?_
        refine asB rfl ?_
        refine r_nil ?_
        refine i_then ?_
        refine t_ret ?_
        refine i_rp1 rfl rfl ?_
        all_goals skip
        exact ret_eq rfl rfl (congrArg Ty.bool (by rw [eq_comm, decide_eq_true_eq]; have := k.2; rwa [List.take_of_length_le (by omega), List.take_of_length_le (by omega)] at this))
set_option maxRecDepth 100000 in
theorem c_Eq_int (a b : List Int) : Ctr Tryz.prog 46 [Ty.sl I64 a, Ty.sl I64 b] (Ty.bool (decide (a = b))) := by
  refine fn_intro Tryz.func46 rfl (by decide) Tryz.ntmps46 (by exact Nat.le_of_ble_eq_true rfl) fun w0 M0 => ?_
  refine t_seq ?_
  refine t_region ?_
  refine asB rfl ?_
  refine r_nil ?_
  refine i_then ?_
  refine t_seq ?_
  refine t_region ?_
  refine mvS rfl ?_
  refine mvS rfl ?_
  refine r_call (c_Equal_int _ _) rfl rfl rfl rfl rfl ?_
  refine asB rfl ?_
  refine r_nil ?_
  refine i_then ?_
  refine t_ret ?_
  refine i_rp1 rfl rfl ?_
  all_goals exact ret_refl rfl rfl
set_option maxRecDepth 100000 in
theorem c_Equal_spn (a b : List Span) : Ctr Tryz.prog 123 [Ty.sl SpanE a, Ty.sl SpanE b] (Ty.bool (decide (a = b))) := by
  refine fn_intro Tryz.func123 rfl (by decide) Tryz.ntmps123 (by exact Nat.le_of_ble_eq_true rfl) fun w0 M0 => ?_
  refine t_fact (s := 0) rfl rfl sl_len fun ha => ?_
  refine t_fact (s := 1) rfl rfl sl_len fun hb => ?_
  refine t_seq ?_
  refine t_region ?_
  refine asB rfl ?_
  refine r_nil ?_
  refine i_then ?_
  refine t_seq ?_
  refine t_seq ?_
  refine t_region ?_
  refine mvS rfl ?_
  refine r_len rfl rfl rfl ?_
  refine mvS rfl ?_
  refine r_len rfl rfl rfl ?_
  refine r_bin rfl rfl rfl ?_
  refine r_nil ?_
  refine i_then ?_
  refine t_cond_ndec rfl (fun hc1 => ?_) (fun hc1 => ?_)
  ·
    try (simp only [Classical.not_not] at hc1)
    refine t_seq ?_
    refine t_region ?_
    refine asB rfl ?_
    refine r_nil ?_
    refine i_then ?_
    refine t_ret ?_
    refine i_then_ret ?_
    refine i_rp1 rfl rfl ?_
    all_goals skip
    exact ret_eq rfl rfl (congrArg Ty.bool (by rw [eq_comm, decide_eq_false_iff_not]; intro e; subst e; exact hc1 rfl))
  ·
    try (simp only [Classical.not_not] at hc1)
    refine t_skip ?_
    refine i_then ?_
    refine t_seq ?_
    refine t_seq ?_
    refine t_region ?_
    refine mvS rfl ?_
    refine r_len rfl rfl rfl ?_
    refine mvI rfl ?_
    refine r_nil ?_
    refine i_then ?_
    refine t_block ?_
    refine t_loop (fun (k : {k : Nat // a.take k = b.take k}) => live [(0, Ty.sl SpanE a), (1, Ty.sl SpanE b), (12, Ty.int .i64 a.length), (13, Ty.int .i64 (k.1 : Nat))] []) (fun k => a.length - k.1) (⟨0, by simp⟩) ?_ fun k => ?_
    · (refine Ent.mk' ?_ ?_ <;> (repeat' (first | exact allSub_zero | exact allTags_nil | refine allSub_succ' ?_ (Ty.sub_any _) | refine allSub_succ' ?_ (Ty.sub_refl _))))
    ·
      have hlen : a.length = b.length := by omega
      refine t_seq ?_
      refine t_region ?_
      refine r_bin rfl rfl rfl ?_
      refine r_nil ?_
      refine i_then ?_
      refine t_seq ?_
      refine t_cond_dec rfl (fun hc2 => ?_) (fun hc2 => ?_)
      ·
        try (simp only [Classical.not_not] at hc2)
        refine t_skip ?_
        refine i_then ?_
        refine t_seq ?_
        refine t_block ?_
        refine t_seq ?_
        refine t_region ?_
        refine mvI rfl ?_
        refine asI rfl ?_
        refine r_nil ?_
        refine i_then ?_
        refine t_seq ?_
        refine t_draw mixed rfl ?_
        refine mvS rfl ?_
        refine mvI rfl ?_
        refine r_index_slN rfl rfl rfl rfl rfl rfl (by omega) ?_
        refine r_load_ppN rfl rfl rfl (by exact Nat.le_of_ble_eq_true rfl) ?_
        refine mvS rfl ?_
        refine mvI rfl ?_
        refine r_index_slN rfl rfl rfl rfl rfl rfl (by omega) ?_
        refine r_load_ppN rfl rfl rfl (by exact Nat.le_of_ble_eq_true rfl) ?_
        refine r_neq_A (eqt37 _ _ _ _) rfl rfl ?_
        refine r_nil ?_
        refine ⟨by kernel_rfl, ?_⟩
        refine i_then ?_
        refine t_cond rfl (fun hc3 => ?_) (fun hc3 => ?_)
        ·
          try (simp only [Classical.not_not] at hc3)
          refine t_seq ?_
          refine t_region ?_
          refine asB rfl ?_
          refine r_nil ?_
          refine i_then ?_
          refine t_ret ?_
          refine i_block_ret ?_
          refine i_then_ret ?_
          refine i_then_ret ?_
          refine i_block_ret ?_
          refine i_then_ret ?_
          refine i_rp1 rfl rfl ?_
          all_goals skip
          exact ret_eq rfl rfl (congrArg Ty.bool (by rw [eq_comm, decide_eq_false_iff_not]; exact ne_of_nth (k := k.1) (of_decide_eq_false (by rw [← spn_eq]; exact not_b hc3))))
        ·
          try (simp only [Classical.not_not] at hc3)
          refine t_skip ?_
          refine i_block ?_
          refine i_then ?_
          refine t_region ?_
          refine r_add rfl rfl (by omega) (by omega) ?_
          refine mvI rfl ?_
          refine r_nil ?_
          refine i_round (⟨k.1 + 1, by have e : nth a k.1 = nth b k.1 := of_decide_eq_true (by rw [← spn_eq]; exact not_not_b hc3); rw [take_nth (by omega), take_nth (by omega), k.2, e]⟩) ?_ (by show a.length - (k.1 + 1) < a.length - k.1; omega)
          (refine Ent.mk' ?_ ?_ <;> (repeat' (first | exact allSub_zero | exact allTags_nil | refine allSub_succ' ?_ (Ty.sub_any _) | refine allSub_succ' ?_ (Ty.sub_refl _))))
          all_goals skip
      ·
        try (simp only [Classical.not_not] at hc2)
        refine t_exit ?_
        refine i_then_exit ?_
        refine i_then_exit ?_
        refine i_block_exit rfl ?_
        refine i_then ?_
        refine t_seq ?_
        refine t_region ?_
        refine asB rfl ?_
        refine r_nil ?_
        refine i_then ?_
        refine t_ret ?_
        refine i_rp1 rfl rfl ?_
        all_goals skip
        exact ret_eq rfl rfl (congrArg Ty.bool (by rw [eq_comm, decide_eq_true_eq]; have := k.2; rwa [List.take_of_length_le (by omega), List.take_of_length_le (by omega)] at this))
set_option maxRecDepth 100000 in
theorem c_Eq_spn (a b : List Span) : Ctr Tryz.prog 50 [Ty.sl SpanE a, Ty.sl SpanE b] (Ty.bool (decide (a = b))) := by
  refine fn_intro Tryz.func50 rfl (by decide) Tryz.ntmps50 (by exact Nat.le_of_ble_eq_true rfl) fun w0 M0 => ?_
  refine t_seq ?_
  refine t_region ?_
  refine asB rfl ?_
  refine r_nil ?_
  refine i_then ?_
  refine t_seq ?_
  refine t_region ?_
  refine mvS rfl ?_
  refine mvS rfl ?_
  refine r_call (c_Equal_spn _ _) rfl rfl rfl rfl rfl ?_
  refine asB rfl ?_
  refine r_nil ?_
  refine i_then ?_
  refine t_ret ?_
  refine i_rp1 rfl rfl ?_
  all_goals exact ret_refl rfl rfl
end Go.Proofs.YtelbollidfdcjaaGreat

namespace Go.Proofs.YtelbollidfdcjaaGreat
open Go Go.T
def two (k : Nat) : Yard := ⟨2, [⟨100, ⟨20, 30⟩⟩, ⟨50, ⟨0, 0⟩⟩], [⟨0, -1, 0, ⟨40, 60⟩⟩, ⟨1, 0, 1, ⟨10, 40⟩⟩, ⟨1, 1, -1, ⟨5, 10⟩⟩], ([⟨2, 1, ⟨20, 25⟩⟩, ⟨2, 0, ⟨10, 24⟩⟩] : List Level).take k⟩
def amT (p q u v w : Int) : Amts := ⟨[p, q], [u, v, w]⟩
section
variable {k : Nat} {c : Nat → Bool} {a : Amts} {p q u v w : Int}
theorem two_chk (h : k ≤ 2) : checkY (two k) = 0 := by
  have : k = 0 ∨ k = 1 ∨ k = 2 := by omega
  rcases this with rfl | rfl | rfl <;> decide
theorem two_right (h : k ≤ 2) : (two k).Right := chk_right (two_chk h)
theorem two_am (h : Lens (two k) a) : ∃ p q u v w, a = amT p q u v w := by
  obtain ⟨f, m⟩ := a
  have h1 : f.length = 2 := h.first
  have h2 : m.length = 3 := h.moved
  match f, m, h1, h2 with
  | [p, q], [u, v, w], _, _ => exact ⟨p, q, u, v, w, rfl⟩
theorem two_00 : contY (two k) (amT p q u v w) 0 0 = p := by simp [contY, sumN, dayT, ind, nth, two, amT]
theorem two_01 : contY (two k) (amT p q u v w) 0 1 = p + u := by simp [contY, sumN, dayT, ind, nth, two, amT]
theorem two_02 : contY (two k) (amT p q u v w) 0 2 = p + u - v := by simp [contY, sumN, dayT, ind, nth, two, amT]; omega
theorem two_10 : contY (two k) (amT p q u v w) 1 0 = q := by simp [contY, sumN, dayT, ind, nth, two, amT]
theorem two_11 : contY (two k) (amT p q u v w) 1 1 = q := by simp [contY, sumN, dayT, ind, nth, two, amT]
theorem two_12 : contY (two k) (amT p q u v w) 1 2 = q + v - w := by simp [contY, sumN, dayT, ind, nth, two, amT]; omega
structure TwoA (k : Nat) (c : Nat → Bool) (p q u v w : Int) : Prop where
  hp : 20 ≤ p ∧ p ≤ 30
  hq : q = 0
  hu : 40 ≤ u ∧ u ≤ 60
  hv : 10 ≤ v ∧ v ≤ 40
  hw : 5 ≤ w ∧ w ≤ 10
  l0 : 0 < k → c 0 = true → 20 ≤ v - w ∧ v - w ≤ 25
  l1 : 1 < k → c 1 = true → 10 ≤ p + u - v ∧ p + u - v ≤ 24
theorem two_fits (hk : k ≤ 2) : FitsC (two k) c (amT p q u v w) ↔ TwoA k c p q u v w := by
  constructor
  · intro h
    have f0 := h.first 0 (Nat.zero_lt_succ _)
    have f1 := h.first 1 (show 1 < 2 by decide)
    have m0 := h.moved 0 (Nat.zero_lt_succ _)
    have m1 := h.moved 1 (show 1 < 3 by decide)
    have m2 := h.moved 2 (show 2 < 3 by decide)
    have hq : (0 : Int) ≤ q ∧ q ≤ 0 := f1
    refine ⟨f0, by omega, m0, m1, m2, fun h0 hc => ?_, fun h1 hc => ?_⟩
    · have e : nth (two k).levels 0 = ⟨2, 1, ⟨20, 25⟩⟩ := by
        obtain ⟨j, rfl⟩ : ∃ j, k = j + 1 := ⟨k - 1, by omega⟩
        rfl
      have hl : 0 < (two k).levels.length := by
        obtain ⟨j, rfl⟩ : ∃ j, k = j + 1 := ⟨k - 1, by omega⟩
        show 0 < (List.take (j + 1) _).length
        rw [List.take_succ_cons, List.length_cons]; omega
      have := h.level 0 hl hc
      rw [e] at this
      have := this
      change 20 ≤ contY _ _ 1 2 ∧ contY _ _ 1 2 ≤ 25 at this
      rw [two_12] at this
      omega
    · obtain rfl : k = 2 := by omega
      have := h.level 1 (by decide) hc
      change 10 ≤ contY _ _ 0 2 ∧ contY _ _ 0 2 ≤ 24 at this
      rw [two_02] at this
      exact this
  · intro ⟨hp, hq, hu, hv, hw, h0, h1⟩
    have hlen : (two k).levels.length = k := by
      show (List.take k _).length = k
      rw [List.length_take]; show min k 2 = k; omega
    refine ⟨⟨rfl, rfl⟩, fun b hb => ?_, fun b t hb ht => ?_, fun i hi => ?_, fun i hi hc => ?_⟩
    · have hb : b < 2 := hb
      have : b = 0 ∨ b = 1 := by omega
      rcases this with rfl | rfl
      · exact hp
      · show 0 ≤ q ∧ q ≤ 0; omega
    · have hb : b < 2 := hb
      have ht : t ≤ 2 := ht
      have e1 : b = 0 ∨ b = 1 := by omega
      have e2 : t = 0 ∨ t = 1 ∨ t = 2 := by omega
      rcases e1 with rfl | rfl <;> rcases e2 with rfl | rfl | rfl
      · rw [two_00]; show 0 ≤ p ∧ p ≤ 100; omega
      · rw [two_01]; show 0 ≤ p + u ∧ p + u ≤ 100; omega
      · rw [two_02]; show 0 ≤ p + u - v ∧ p + u - v ≤ 100; omega
      · rw [two_10]; show 0 ≤ q ∧ q ≤ 50; omega
      · rw [two_11]; show 0 ≤ q ∧ q ≤ 50; omega
      · rw [two_12]; show 0 ≤ q + v - w ∧ q + v - w ≤ 50; omega
    · have hi : i < 3 := hi
      have : i = 0 ∨ i = 1 ∨ i = 2 := by omega
      rcases this with rfl | rfl | rfl
      · exact hu
      · exact hv
      · exact hw
    · rw [hlen] at hi
      have : i = 0 ∨ i = 1 := by omega
      rcases this with rfl | rfl
      · have h := h0 hi hc
        have e : nth (two k).levels 0 = ⟨2, 1, ⟨20, 25⟩⟩ := by
          obtain ⟨j, rfl⟩ : ∃ j, k = j + 1 := ⟨k - 1, by omega⟩
          rfl
        rw [e]
        change 20 ≤ contY _ _ 1 2 ∧ contY _ _ 1 2 ≤ 25
        rw [two_12]; omega
      · obtain rfl : k = 2 := by omega
        have h := h1 (by omega) hc
        change 10 ≤ contY _ _ 0 2 ∧ contY _ _ 0 2 ≤ 24
        rw [two_02]; exact h
theorem two_isS (hk : k ≤ 2) {f : Amts → Int} {s : Span} (p0 q0 u0 v0 w0 p1 q1 u1 v1 w1 : Int) (h0 : TwoA k c p0 q0 u0 v0 w0) (e0 : f (amT p0 q0 u0 v0 w0) = s.lo) (h1 : TwoA k c p1 q1 u1 v1 w1) (e1 : f (amT p1 q1 u1 v1 w1) = s.hi)
    (h : ∀ p q u v w, TwoA k c p q u v w → s.lo ≤ f (amT p q u v w) ∧ f (amT p q u v w) ≤ s.hi) : IsS (two k) c f s :=
  ⟨⟨_, (two_fits hk).2 h0, e0⟩, ⟨_, (two_fits hk).2 h1, e1⟩, fun a ha => by
    obtain ⟨p, q, u, v, w, rfl⟩ := two_am ha.lens
    exact h p q u v w ((two_fits hk).1 ha)⟩
end
end Go.Proofs.YtelbollidfdcjaaGreat

namespace Go.Proofs.YtelbollidfdcjaaGreat
open Go Go.T
section
variable {y : Yard} {c : Nat → Bool} {a : Amts} {b t k : Nat} {s : Span}
theorem open_yes (h0 : checkY y = 0) (h : ∃ a, FitsC y (nth allC) a) : openE y = 0 := (open_3 h0 ((stuck_fits (chk_right h0)).2 h)).symm
theorem open_not (h0 : checkY y = 0) (h : ¬ ∃ a, FitsC y (nth allC) a) : openE y = 7 := by
  cases e : (stuckM (flowsY y (nth allC)) (y.cells + 1) (loL (flowsY y (nth allC)))).2.1 with
  | true => exact (open_2 h0 e).symm
  | false => exact absurd ((stuck_fits (chk_right h0)).1 e) h
theorem open_fits (h : openE y = 0) : ∃ a, FitsC y (nth allC) a := (stuck_fits (chk_right (open_chk h))).1 (open_ok h)
theorem agree_iff (hr : y.Right) {l : List Bool} : agreeM y l = true ↔ ∃ a, FitsC y (nth l) a := by
  unfold agreeM
  rw [Bool.not_eq_true', stuck_fits hr]
theorem bnd_isS (ho : openE y = 0) (hb : b < y.bins.length) (ht : t ≤ y.D) : IsS y (nth allC) (fun a => contY y a b t) (spanU (flowsY y (nth allC)) (y.cells + 1) (hasB y b t)) :=
  span_isS (chk_right (open_chk ho)) (fun x hx => has_bin (chk_right (open_chk ho)) hb ht hx) (open_fits ho)
theorem whl_isS (ho : openE y = 0) (ht : t ≤ y.D) : IsS y (nth allC) (fun a => sumN (fun b => contY y a b t) y.bins.length) (spanU (flowsY y (nth allC)) (y.cells + 1) (hasW y t)) :=
  span_isS (chk_right (open_chk ho)) (fun x hx => has_whole (chk_right (open_chk ho)) ht hx) (open_fits ho)
theorem mov_isS (ho : openE y = 0) (hk : k < y.moves.length) : IsS y (nth allC) (fun a => nth a.moved k) (spanU (flowsY y (nth allC)) (y.cells + 1) (hasK (y.bins.length * (y.D + 1) + k))) :=
  span_isS (chk_right (open_chk ho)) (fun x hx => has_move hk) (open_fits ho)
theorem known_b (h0 : checkY y = 0) (hb : b < y.bins.length) : knownE y (b : Int) = 0 := by
  unfold knownE
  rw [if_pos h0, if_pos (by unfold Yard.bin; rw [inB_true]; omega)]
theorem bndE_ok (ho : openE y = 0) (hb : b < y.bins.length) : bndE y (b : Int) = 0 := (bndE_3 (known_b (open_chk ho) hb) ho).1.symm
theorem bndY_ok (ho : openE y = 0) (hb : b < y.bins.length) : bndY y (b : Int) = (List.range (y.D + 1)).map fun t => spanU (flowsY y (nth allC)) (y.cells + 1) (hasB y b t) := (bndE_3 (known_b (open_chk ho) hb) ho).2.symm
theorem whlY_ok (ho : openE y = 0) : whlY y = (List.range (y.D + 1)).map fun t => spanU (flowsY y (nth allC)) (y.cells + 1) (hasW y t) := (whlY_yes ho).symm
theorem bndY_len (ho : openE y = 0) (hb : b < y.bins.length) : (bndY y (b : Int)).length = y.D + 1 := by rw [bndY_ok ho hb, List.length_map, List.length_range]
theorem bndY_isS (ho : openE y = 0) (hb : b < y.bins.length) (ht : t ≤ y.D) : IsS y (nth allC) (fun a => contY y a b t) (nth (bndY y (b : Int)) t) := by
  rw [bndY_ok ho hb, range_nth _ (by omega)]; exact bnd_isS ho hb ht
theorem movE_ok (ho : openE y = 0) (hk : k < y.moves.length) : movE y (k : Int) = 0 := (mvE_4 (open_chk ho) (by rw [Bool.not_eq_false', Bool.and_eq_true, decide_eq_true_eq, decide_eq_true_eq]; omega) ho).1.symm
theorem movS_isS (ho : openE y = 0) (hk : k < y.moves.length) : IsS y (nth allC) (fun a => nth a.moved k) (movS y (k : Int)) := by
  rw [← (mvE_4 (open_chk ho) (by rw [Bool.not_eq_false', Bool.and_eq_true, decide_eq_true_eq, decide_eq_true_eq]; omega) ho).2]
  exact mov_isS ho hk
end
theorem list3 {α : Type} {a b c x y z : α} (h1 : a = x) (h2 : b = y) (h3 : c = z) : [a, b, c] = [x, y, z] := by subst h1; subst h2; subst h3; rfl
theorem two_open {k : Nat} (hk : k ≤ 1) : openE (two k) = 0 :=
  open_yes (two_chk (by omega)) ⟨amT 20 0 40 25 5, (two_fits (by omega)).2 ⟨by omega, rfl, by omega, by omega, by omega, fun _ _ => by omega, fun _ _ => by omega⟩⟩
theorem aw_b0 : bndE (two 0) 0 = 0 := bndE_ok (b := 0) (two_open (by omega)) (by decide)
theorem aw_bnd0 : bndY (two 0) 0 = [⟨20, 30⟩, ⟨60, 90⟩, ⟨20, 80⟩] := by
  have ho := two_open (k := 0) (by omega)
  have e := bndY_ok (b := 0) ho (by decide)
  have h0 := (bnd_isS (b := 0) (t := 0) ho (by decide) (by decide)).one (two_isS (s := ⟨20, 30⟩) (by omega) 20 0 40 10 5 30 0 40 10 5 (by constructor <;> intros <;> omega) two_00 (by constructor <;> intros <;> omega) two_00 fun p q u v w h => by rw [two_00]; exact h.hp)
  have h1 := (bnd_isS (b := 0) (t := 1) ho (by decide) (by decide)).one (two_isS (s := ⟨60, 90⟩) (by omega) 20 0 40 10 5 30 0 60 10 5 (by constructor <;> intros <;> omega) two_01 (by constructor <;> intros <;> omega) two_01 fun p q u v w h => by rw [two_01]; have := h.hp; have := h.hu; show 60 ≤ p + u ∧ p + u ≤ 90; omega)
  have h2 := (bnd_isS (b := 0) (t := 2) ho (by decide) (by decide)).one (two_isS (s := ⟨20, 80⟩) (by omega) 20 0 40 40 5 30 0 60 10 5 (by constructor <;> intros <;> omega) two_02 (by constructor <;> intros <;> omega) two_02 fun p q u v w h => by rw [two_02]; have := h.hp; have := h.hu; have := h.hv; show 20 ≤ p + u - v ∧ p + u - v ≤ 80; omega)
  show bndY (two 0) ((0 : Nat) : Int) = _
  rw [e]
  exact list3 h0 h1 h2
theorem aw_bnd1 : bndY (two 1) 0 = [⟨20, 30⟩, ⟨60, 90⟩, ⟨25, 65⟩] := by
  have ho := two_open (k := 1) (by omega)
  have e := bndY_ok (b := 0) ho (by decide)
  have h0 := (bnd_isS (b := 0) (t := 0) ho (by decide) (by decide)).one (two_isS (s := ⟨20, 30⟩) (by omega) 20 0 40 25 5 30 0 40 25 5 (by constructor <;> intros <;> omega) two_00 (by constructor <;> intros <;> omega) two_00 fun p q u v w h => by rw [two_00]; exact h.hp)
  have h1 := (bnd_isS (b := 0) (t := 1) ho (by decide) (by decide)).one (two_isS (s := ⟨60, 90⟩) (by omega) 20 0 40 25 5 30 0 60 25 5 (by constructor <;> intros <;> omega) two_01 (by constructor <;> intros <;> omega) two_01 fun p q u v w h => by rw [two_01]; have := h.hp; have := h.hu; show 60 ≤ p + u ∧ p + u ≤ 90; omega)
  have h2 := (bnd_isS (b := 0) (t := 2) ho (by decide) (by decide)).one (two_isS (s := ⟨25, 65⟩) (by omega) 20 0 40 35 10 30 0 60 25 5 (by constructor <;> intros <;> omega) two_02 (by constructor <;> intros <;> omega) two_02 fun p q u v w h => by rw [two_02]; have := h.hp; have := h.hu; have := h.hw; have := h.l0 (by omega) rfl; show 25 ≤ p + u - v ∧ p + u - v ≤ 65; omega)
  show bndY (two 1) ((0 : Nat) : Int) = _
  rw [e]
  exact list3 h0 h1 h2
theorem two_sum {k : Nat} {a : Amts} {t : Nat} : sumN (fun b => contY (two k) a b t) (two k).bins.length = contY (two k) a 0 t + contY (two k) a 1 t := by
  show (0 + contY (two k) a 0 t) + contY (two k) a 1 t = _; rw [Int.zero_add]
theorem aw_whl : whlY (two 0) = [⟨20, 30⟩, ⟨60, 90⟩, ⟨50, 85⟩] := by
  have ho := two_open (k := 0) (by omega)
  have e := whlY_ok ho
  have h0 := (whl_isS (t := 0) ho (by decide)).one (two_isS (s := ⟨20, 30⟩) (by omega) 20 0 40 10 5 30 0 40 10 5 (by constructor <;> intros <;> omega) (by rw [two_sum, two_00, two_10]; rfl) (by constructor <;> intros <;> omega) (by rw [two_sum, two_00, two_10]; rfl) fun p q u v w h => by rw [two_sum, two_00, two_10]; have := h.hp; have := h.hq; show 20 ≤ p + q ∧ p + q ≤ 30; omega)
  have h1 := (whl_isS (t := 1) ho (by decide)).one (two_isS (s := ⟨60, 90⟩) (by omega) 20 0 40 10 5 30 0 60 10 5 (by constructor <;> intros <;> omega) (by rw [two_sum, two_01, two_11]; rfl) (by constructor <;> intros <;> omega) (by rw [two_sum, two_01, two_11]; rfl) fun p q u v w h => by rw [two_sum, two_01, two_11]; have := h.hp; have := h.hq; have := h.hu; show 60 ≤ p + u + q ∧ p + u + q ≤ 90; omega)
  have h2 := (whl_isS (t := 2) ho (by decide)).one (two_isS (s := ⟨50, 85⟩) (by omega) 20 0 40 10 10 30 0 60 10 5 (by constructor <;> intros <;> omega) (by rw [two_sum, two_02, two_12]; rfl) (by constructor <;> intros <;> omega) (by rw [two_sum, two_02, two_12]; rfl) fun p q u v w h => by rw [two_sum, two_02, two_12]; have := h.hp; have := h.hq; have := h.hu; have := h.hw; show 50 ≤ p + u - v + (q + v - w) ∧ p + u - v + (q + v - w) ≤ 85; omega)
  rw [e]
  exact list3 h0 h1 h2
theorem aw_m1 : movE (two 1) 1 = 0 := movE_ok (k := 1) (two_open (by omega)) (by decide)
theorem aw_mov : movS (two 1) 1 = ⟨25, 35⟩ :=
  (movS_isS (k := 1) (two_open (k := 1) (by omega)) (by decide)).one (two_isS (s := ⟨25, 35⟩) (by omega) 20 0 40 25 5 20 0 40 35 10 (by constructor <;> intros <;> omega) rfl (by constructor <;> intros <;> omega) rfl fun p q u v w h => by have := h.hw; have := h.l0 (by omega) rfl; show 25 ≤ v ∧ v ≤ 35; omega)
theorem aw_s1 : 0 = fstE (two 1) 0 60 (fun x => decide (x.lo ≥ 60)) ∧ fidx (fun x : Span => decide (x.lo ≥ 60)) (bndY (two 1) 0) = fstV (two 1) 0 60 (fun x => decide (x.lo ≥ 60)) :=
  fst_5 (known_b (b := 0) (two_chk (by omega)) (by decide)) rfl (bndE_ok (b := 0) (two_open (by omega)) (by decide)) (by rw [aw_bnd1]; decide)
theorem aw_sur : fstV (two 1) 0 60 (fun x => decide (x.lo ≥ 60)) = 1 := by rw [← aw_s1.2, aw_bnd1]; rfl
def exPrf : Prf := ⟨[⟨0, 0⟩, ⟨0, 1⟩, ⟨1, 1⟩], false⟩
theorem aw_hold : holdsM (two 2) (flowsY (two 2) (nth allC)) exPrf = 1 := by kernel_rfl
theorem aw_p : 0 = prfE (two 2) exPrf ∧ holdsM (two 2) (flowsY (two 2) (nth allC)) exPrf = prfV (two 2) exPrf :=
  prf_5 (two_chk (by omega)) (by decide) (fun i hi => by
    have hi : i + 1 < 3 := hi
    have : i = 0 ∨ i = 1 := by omega
    rcases this with rfl | rfl <;> decide) (by rw [aw_hold]; decide)
theorem aw_prf : prfV (two 2) exPrf = 1 := by rw [← aw_p.2, aw_hold]
theorem two_none : ¬ ∃ a, FitsC (two 2) (nth allC) a := by
  rintro ⟨a, ha⟩
  obtain ⟨p, q, u, v, w, rfl⟩ := two_am ha.lens
  have h := (two_fits (by omega)).1 ha
  have h0 := h.l0 (by omega) rfl
  have h1 := h.l1 (by omega) rfl
  have := h.hp; have := h.hu; have := h.hw
  omega
theorem aw_some : openE (two 2) = 7 := open_not (two_chk (by omega)) two_none
theorem two_yes {l : List Bool} (h : nth l 0 = false ∨ nth l 1 = false) : agreeM (two 2) l = true := by
  rw [agree_iff (two_right (by omega))]
  cases h1 : nth l 1 with
  | false => exact ⟨amT 20 0 40 25 5, (two_fits (by omega)).2 ⟨by omega, rfl, by omega, by omega, by omega, fun _ _ => by omega, fun _ hc => by rw [h1] at hc; cases hc⟩⟩
  | true =>
    have h0 : nth l 0 = false := h.resolve_right (by rw [h1]; decide)
    exact ⟨amT 20 0 40 40 5, (two_fits (by omega)).2 ⟨by omega, rfl, by omega, by omega, by omega, fun _ hc => absurd hc (by rw [h0]; decide), fun _ _ => by omega⟩⟩
theorem two_no {l : List Bool} (h : nth l 0 = true ∧ nth l 1 = true) : agreeM (two 2) l = false := by
  rw [Bool.eq_false_iff]
  intro hc
  obtain ⟨a, ha⟩ := (agree_iff (two_right (by omega))).1 hc
  obtain ⟨p, q, u, v, w, rfl⟩ := two_am ha.lens
  have hh := (two_fits (by omega)).1 ha
  have h0 := hh.l0 (by omega) h.1
  have h1 := hh.l1 (by omega) h.2
  have := hh.hp; have := hh.hu; have := hh.hw
  omega
theorem two_short (h : List Int → Bool) : shortM h 2 = [[], [0], [1], [0, 1]].find? h := rfl
theorem aw_c : shortM (fun l => !agreeM (two 2) (chooseL l false)) 2 = some [0, 1] := by
  rw [two_short, List.find?_cons, two_yes (.inl rfl)]
  show List.find? _ [[0], [1], [0, 1]] = _
  rw [List.find?_cons, two_yes (.inr rfl)]
  show List.find? _ [[1], [0, 1]] = _
  rw [List.find?_cons, two_yes (.inl rfl)]
  show List.find? _ [[0, 1]] = _
  rw [List.find?_cons, two_no ⟨rfl, rfl⟩]; rfl
theorem aw_w : shortM (fun l => agreeM (two 2) (chooseL l true)) 2 = some [0] := by
  rw [two_short, List.find?_cons, two_no ⟨rfl, rfl⟩]
  show List.find? _ [[0], [1], [0, 1]] = _
  rw [List.find?_cons, two_yes (.inl rfl)]
theorem aw_cl : 0 = clashE (two 2) ∧ shV (fun l => !agreeM (two 2) (chooseL l false)) 2 = clashV (two 2) :=
  clash_3 (two_chk (by omega)) (by show (!(shortM _ 2).isSome) = false; rw [aw_c]; rfl)
theorem aw_wr : 0 = wrongE (two 2) ∧ shV (fun l => agreeM (two 2) (chooseL l true)) 2 = wrongV (two 2) :=
  wrong_3 (two_chk (by omega)) (by show (!(shortM _ 2).isSome) = false; rw [aw_w]; rfl)
theorem aw_clash : clashV (two 2) = [0, 1] := by rw [← aw_cl.2]; unfold shV; rw [aw_c]; rfl
theorem aw_wrong : wrongV (two 2) = [0] := by rw [← aw_wr.2]; unfold shV; rw [aw_w]; rfl
end Go.Proofs.YtelbollidfdcjaaGreat

namespace Go.Proofs.YtelbollidfdcjaaGreat
open Go Go.T
set_option maxHeartbeats 4000000
def sameY (a b : Yard) : Bool := ((decide (a.days = b.days) && decide (a.bins = b.bins)) && decide (a.moves = b.moves)) && decide (a.levels = b.levels)
def greatY (y : Yard) : Bool := (decide ((y.bins.length : Int) > 8) || decide ((y.moves.length : Int) > 14)) || decide ((y.levels.length : Int) > 12)
theorem nil_row_eq {α : Type} {E : El α} {T tg : Nat} {xs : List α} (h : xs = []) : (Ty.ex (.slice none 0 0)).Sub (Ty.row E T tg xs) := by subst h; exact Ty.nil_row
theorem pubTy_row_eq {A : As} {α : Type} {E : El α} {T tg : Nat} {xs ys : List α} (h : xs = ys) : PubTy A tg (Ty.row E T tg xs) (Ty.sl E ys) := by subst h; exact pubTy_row
theorem two_small {k : Nat} (hk : k ≤ 2) : (two k).Small := ⟨by show 2 ≤ 1000; omega, by show 3 ≤ 1000; omega, by show (List.take k _).length ≤ 1000; rw [List.length_take]; show min k 2 ≤ 1000; omega⟩
attribute [local irreducible] bndY bndE whlY openE movS movE fstV fstE prfV prfE clashV clashE wrongV wrongE someY checkY
attribute [local irreducible] dInt dBool dSl dPp dPtr dAgg dTup dClo dAny dEx dStr dGd dCells dVec dVs dRow dOp nth Tri Into TOps Ctr bodyPost Exit.then Exit.inBlock Code.wp Code.wpIn dWhen dPa dPe dAo dArr dMp dPm dMap dCJ CtrG CtrI OpY keepPost iterPost bodyPostM roundQ
set_option maxRecDepth 100000 in
theorem c_span (a b : Int) : Ctr Tryz.prog 56 [Ty.int .i64 a, Ty.int .i64 b] (Ty.agg (SpanE.tys ⟨a, b⟩)) := by
  refine fn_intro Tryz.func56 rfl (by decide) Tryz.ntmps56 (by exact Nat.le_of_ble_eq_true rfl) fun w0 M0 => ?_
  refine t_seq ?_
  refine t_region ?_
  refine r_alloc rfl (by exact List.cons_ne_nil _ _) rfl ?_
  refine r_nil ?_
  refine i_then ?_
  refine t_seq ?_
  refine t_region ?_
  refine mvI rfl ?_
  refine mvI rfl ?_
  refine r_build rfl rfl (by exact List.cons_ne_nil _ _) rfl (by repeat (first | exact (Parts.nil : Parts _ _ [] _) | (show Parts _ _ ((_, _) :: _) _; apply Parts.one; (· exact (rfl : _ = Ty.int _ _)); (· exact rfl)))) (by exact (rfl : _ = some [_, _])) ?_
  refine r_storeN rfl rfl (by decide) rfl rfl rfl rfl rfl rfl ?_
  refine r_nil ?_
  refine i_then ?_
  refine t_ret ?_
  refine i_rcell rfl rfl rfl rfl (by decide) rfl rfl rfl ?_
  all_goals exact ret_eq rfl rfl rfl
set_option maxRecDepth 100000 in
theorem c_Two (k : Nat) (hk : k ≤ 2) : Ctr Tryz.prog 93 [Ty.int .i64 ((k : Nat) : Int)] (yardT (two k)) := by
  refine fn_intro Tryz.func93 rfl (by decide) Tryz.ntmps93 (by exact Nat.le_of_ble_eq_true rfl) fun w0 M0 => ?_
  refine t_seq ?_
  refine t_region ?_
  refine r_alloc rfl (by exact List.cons_ne_nil _ _) rfl ?_
  refine r_nil ?_
  refine i_then ?_
  refine t_seq ?_
  refine t_region ?_
  refine r_call (c_span _ _) rfl rfl rfl rfl rfl ?_
  refine r_build rfl rfl (by exact List.cons_ne_nil _ _) rfl (by repeat (first | exact (Parts.nil : Parts _ _ [] _) | (show Parts _ _ ((_, _) :: _) _; apply Parts.one; (· exact (rfl : _ = Ty.int _ _)); (· exact rfl)) | (show Parts _ _ ((_, _) :: _) _; apply Parts.agg; (· exact (rfl : _ = Ty.agg _))))) (by exact (rfl : _ = some [_, _, _, _])) ?_
  refine r_call (c_span _ _) rfl rfl rfl rfl rfl ?_
  refine r_build rfl rfl (by exact List.cons_ne_nil _ _) rfl (by repeat (first | exact (Parts.nil : Parts _ _ [] _) | (show Parts _ _ ((_, _) :: _) _; apply Parts.one; (· exact (rfl : _ = Ty.int _ _)); (· exact rfl)) | (show Parts _ _ ((_, _) :: _) _; apply Parts.agg; (· exact (rfl : _ = Ty.agg _))))) (by exact (rfl : _ = some [_, _, _, _])) ?_
  refine r_buildSlice (E := LevelE) (xs := [⟨2, 1, ⟨20, 25⟩⟩, ⟨2, 0, ⟨10, 24⟩⟩]) rfl rfl rfl rfl rfl (by decide) (by decide) (by repeat (first | exact (Parts.nil : Parts _ _ [] _) | (show Parts _ _ ((_, _) :: _) _; apply Parts.agg; (· exact (rfl : _ = Ty.agg _))))) (by exact rfl) rfl ?_
  refine asS rfl ?_
  refine r_nil ?_
  refine i_then ?_
  refine t_seq ?_
  refine t_draw mixed rfl ?_
  refine r_call (c_span _ _) rfl rfl rfl rfl rfl ?_
  refine r_build rfl rfl (by exact List.cons_ne_nil _ _) rfl (by repeat (first | exact (Parts.nil : Parts _ _ [] _) | (show Parts _ _ ((_, _) :: _) _; apply Parts.one; (· exact (rfl : _ = Ty.int _ _)); (· exact rfl)) | (show Parts _ _ ((_, _) :: _) _; apply Parts.agg; (· exact (rfl : _ = Ty.agg _))))) (by exact (rfl : _ = some [_, _, _])) ?_
  refine r_build rfl rfl (by exact List.cons_ne_nil _ _) rfl (by repeat (first | exact (Parts.nil : Parts _ _ [] _) | (show Parts _ _ ((_, _) :: _) _; apply Parts.one; (· exact (rfl : _ = Ty.int _ _)); (· exact rfl)))) (by exact (rfl : _ = some [_, _, _])) ?_
  refine r_buildSlice (E := BinE) (xs := [⟨100, ⟨20, 30⟩⟩, ⟨50, ⟨0, 0⟩⟩]) rfl rfl rfl rfl rfl (by decide) (by decide) (by repeat (first | exact (Parts.nil : Parts _ _ [] _) | (show Parts _ _ ((_, _) :: _) _; apply Parts.agg; (· exact (rfl : _ = Ty.agg _))))) (by exact rfl) rfl ?_
  refine r_call (c_span _ _) rfl rfl rfl rfl rfl ?_
  refine r_build rfl rfl (by exact List.cons_ne_nil _ _) rfl (by repeat (first | exact (Parts.nil : Parts _ _ [] _) | (show Parts _ _ ((_, _) :: _) _; apply Parts.one; (· exact (rfl : _ = Ty.int _ _)); (· exact rfl)) | (show Parts _ _ ((_, _) :: _) _; apply Parts.agg; (· exact (rfl : _ = Ty.agg _))))) (by exact rfl) ?_
  refine r_call (c_span _ _) rfl rfl rfl rfl rfl ?_
  refine r_build rfl rfl (by exact List.cons_ne_nil _ _) rfl (by repeat (first | exact (Parts.nil : Parts _ _ [] _) | (show Parts _ _ ((_, _) :: _) _; apply Parts.one; (· exact (rfl : _ = Ty.int _ _)); (· exact rfl)) | (show Parts _ _ ((_, _) :: _) _; apply Parts.agg; (· exact (rfl : _ = Ty.agg _))))) (by exact rfl) ?_
  refine r_call (c_span _ _) rfl rfl rfl rfl rfl ?_
  refine r_build rfl rfl (by exact List.cons_ne_nil _ _) rfl (by repeat (first | exact (Parts.nil : Parts _ _ [] _) | (show Parts _ _ ((_, _) :: _) _; apply Parts.one; (· exact (rfl : _ = Ty.int _ _)); (· exact rfl)) | (show Parts _ _ ((_, _) :: _) _; apply Parts.agg; (· exact (rfl : _ = Ty.agg _))))) (by exact rfl) ?_
  refine r_buildSlice (E := MoveE) (xs := [⟨0, -1, 0, ⟨40, 60⟩⟩, ⟨1, 0, 1, ⟨10, 40⟩⟩, ⟨1, 1, -1, ⟨5, 10⟩⟩]) rfl rfl rfl rfl rfl (by decide) (by decide) (by repeat (first | exact (Parts.nil : Parts _ _ [] _) | (show Parts _ _ ((_, _) :: _) _; apply Parts.agg; (· exact (rfl : _ = Ty.agg _))))) (by exact rfl) rfl ?_
  refine mvS rfl ?_
  refine mvI rfl ?_
  refine mvS rfl ?_
  refine r_len rfl rfl rfl ?_
  refine r_min rfl rfl ?_
  refine r_max rfl rfl ?_
  refine r_cut_hi (hi := k) rfl (show _ = Ty.int .i64 ((k : Nat) : Int) from congrArg (Ty.int .i64) (by show max 0 (min (k : Int) 2) = (k : Int); omega)) rfl rfl rfl rfl (by show k ≤ 2; exact hk) ?_
  refine r_build rfl rfl (by exact List.cons_ne_nil _ _) rfl (by repeat (first | exact (Parts.nil : Parts _ _ [] _) | (show Parts _ _ ((_, _) :: _) _; apply Parts.one; (· first | exact (rfl : _ = Ty.int _ _) | exact (rfl : _ = Ty.sl _ _)); (· exact rfl)))) (by exact (rfl : _ = some [_, _, _, _])) ?_
  refine r_storeN rfl rfl (by decide) rfl rfl rfl rfl rfl rfl ?_
  refine r_nil ?_
  refine ⟨by kernel_rfl, ?_⟩
  refine i_then ?_
  refine t_ret ?_
  refine i_rcell rfl rfl rfl rfl (by decide) rfl rfl rfl ?_
  all_goals exact ret_eq rfl rfl rfl
set_option maxRecDepth 100000 in
theorem c_awake : Ctr Tryz.prog 27 [] (Ty.bool true) := by
  refine fn_intro Tryz.func27 rfl (by decide) Tryz.ntmps27 (by exact Nat.le_of_ble_eq_true rfl) fun w0 M0 => ?_
  refine t_seq ?_
  refine t_region ?_
  refine asB rfl ?_
  refine r_nil ?_
  refine i_then ?_
  refine t_seq ?_
  refine t_region ?_
  refine r_call (c_Two 0 (by decide)) rfl rfl rfl rfl rfl ?_
  refine r_call (c_Bounds (two 0) (two_small (by decide)) 0) rfl rfl rfl rfl rfl ?_
  refine mvT rfl ?_
  refine r_extract rfl rfl ?_
  refine r_extract rfl rfl ?_
  refine asS rfl ?_
  refine asI rfl ?_
  refine r_nil ?_
  refine i_then ?_
  refine t_seq ?_
  refine t_region ?_
  refine r_call (c_Two 0 (by decide)) rfl rfl rfl rfl rfl ?_
  refine r_call (c_Whole (two 0) (two_small (by decide))) rfl rfl rfl rfl rfl ?_
  refine mvT rfl ?_
  refine r_extract rfl rfl ?_
  refine r_extract rfl rfl ?_
  refine asS rfl ?_
  refine asI rfl ?_
  refine r_nil ?_
  refine i_then ?_
  refine t_seq ?_
  refine t_region ?_
  refine r_call (c_Two 1 (by decide)) rfl rfl rfl rfl rfl ?_
  refine r_call (c_Moved (two 1) (two_small (by decide)) 1) rfl rfl rfl rfl rfl ?_
  refine mvT rfl ?_
  refine r_extract rfl rfl ?_
  refine r_extract rfl rfl ?_
  refine r_alloc rfl (by exact List.cons_ne_nil _ _) rfl ?_
  refine r_storeN rfl rfl (by decide) rfl rfl rfl rfl rfl rfl ?_
  refine asI rfl ?_
  refine r_nil ?_
  refine i_then ?_
  refine t_seq ?_
  refine t_region ?_
  refine r_call (c_Two 1 (by decide)) rfl rfl rfl rfl rfl ?_
  refine r_call (c_Surely (two 1) (two_small (by decide)) 0 60) rfl rfl rfl rfl rfl ?_
  refine mvT rfl ?_
  refine r_extract rfl rfl ?_
  refine r_extract rfl rfl ?_
  refine asI rfl ?_
  refine asI rfl ?_
  refine r_nil ?_
  refine i_then ?_
  refine t_seq ?_
  refine t_region ?_
  refine r_build rfl rfl (by exact List.cons_ne_nil _ _) rfl (by repeat (exact (Parts.nil : Parts _ _ [] _))) (by exact (rfl : _ = some [_, _])) ?_
  refine r_build rfl rfl (by exact List.cons_ne_nil _ _) rfl (by repeat (first | exact (Parts.nil : Parts _ _ [] _) | (show Parts _ _ ((_, _) :: _) _; apply Parts.one; (· exact (rfl : _ = Ty.int _ _)); (· exact rfl)))) (by exact (rfl : _ = some [_, _])) ?_
  refine r_build rfl rfl (by exact List.cons_ne_nil _ _) rfl (by repeat (first | exact (Parts.nil : Parts _ _ [] _) | (show Parts _ _ ((_, _) :: _) _; apply Parts.one; (· exact (rfl : _ = Ty.int _ _)); (· exact rfl)))) (by exact (rfl : _ = some [_, _])) ?_
  refine r_buildSlice (E := CelE) (xs := exPrf.cells) rfl rfl rfl rfl rfl (by decide) (by decide) (by repeat (first | exact (Parts.nil : Parts _ _ [] _) | (show Parts _ _ ((_, _) :: _) _; apply Parts.agg; (· exact (rfl : _ = Ty.agg _))))) (by exact rfl) rfl ?_
  refine r_build rfl rfl (by exact List.cons_ne_nil _ _) rfl (by repeat (first | exact (Parts.nil : Parts _ _ [] _) | (show Parts _ _ ((_, _) :: _) _; apply Parts.one; (· exact (rfl : _ = Ty.sl _ _)); (· exact rfl)))) (by exact (rfl : _ = some [_, _])) ?_
  refine r_alloc rfl (by exact List.cons_ne_nil _ _) rfl ?_
  refine r_storeN rfl rfl (by decide) rfl rfl rfl rfl rfl rfl ?_
  refine r_nil ?_
  refine i_then ?_
  refine t_seq ?_
  refine t_draw mixed rfl ?_
  refine r_call (c_Two 2 (by decide)) rfl rfl rfl rfl rfl ?_
  refine r_load_ptrN rfl rfl (by decide) rfl rfl (by exact Nat.le_of_ble_eq_true rfl) ?_
  refine r_call (c_Proves (two 2) (two_small (by decide)) exPrf (by decide)) rfl rfl rfl rfl rfl ?_
  refine mvT rfl ?_
  refine r_extract rfl rfl ?_
  refine r_extract rfl rfl ?_
  refine asI rfl ?_
  refine asI rfl ?_
  refine r_nil ?_
  refine ⟨by kernel_rfl, ?_⟩
  refine i_then ?_
  refine t_seq ?_
  refine t_region ?_
  refine r_call (c_Two 2 (by decide)) rfl rfl rfl rfl rfl ?_
  refine r_call (c_Clash (two 2) (two_small (by decide))) rfl rfl rfl rfl rfl ?_
  refine mvT rfl ?_
  refine r_extract rfl rfl ?_
  refine r_extract rfl rfl ?_
  refine asS rfl ?_
  refine asI rfl ?_
  refine r_nil ?_
  refine i_then ?_
  refine t_seq ?_
  refine t_region ?_
  refine r_call (c_Two 2 (by decide)) rfl rfl rfl rfl rfl ?_
  refine r_call (c_Wrong (two 2) (two_small (by decide))) rfl rfl rfl rfl rfl ?_
  refine mvT rfl ?_
  refine r_extract rfl rfl ?_
  refine r_extract rfl rfl ?_
  refine asS rfl ?_
  refine asI rfl ?_
  refine r_nil ?_
  refine i_then ?_
  refine t_seq ?_
  refine t_region ?_
  refine r_call (c_Two 2 (by decide)) rfl rfl rfl rfl rfl ?_
  refine r_call (c_Some (two 2) (two_small (by decide))) rfl rfl rfl rfl rfl ?_
  refine mvT rfl ?_
  refine r_extract rfl rfl ?_
  refine r_extract rfl rfl ?_
  refine r_alloc rfl (by exact List.cons_ne_nil _ _) rfl ?_
  refine r_storeN rfl rfl (by decide) rfl rfl rfl rfl rfl rfl ?_
  refine asI rfl ?_
  refine r_nil ?_
  refine i_then ?_
  refine t_seq ?_
  refine t_as (s := 1) rfl (Ty.sub_eq (congrArg (Ty.sl SpanE) aw_bnd0)) ?_
  refine t_as (s := 2) rfl (Ty.sub_int aw_b0) ?_
  refine t_as (s := 3) rfl (Ty.sub_eq (congrArg (Ty.sl SpanE) aw_whl)) ?_
  refine t_as (s := 4) rfl (Ty.sub_int (two_open (k := 0) (by decide))) ?_
  refine t_asC (tg := 6) rfl (Cont.sub_cells (congrArg SpanE.tys aw_mov)) ?_
  refine t_as (s := 6) rfl (Ty.sub_int aw_m1) ?_
  refine t_as (s := 7) rfl (Ty.sub_int aw_sur) ?_
  refine t_as (s := 8) rfl (Ty.sub_int aw_s1.1.symm) ?_
  refine t_as (s := 10) rfl (Ty.sub_int aw_prf) ?_
  refine t_as (s := 11) rfl (Ty.sub_int aw_p.1.symm) ?_
  refine t_as (s := 12) rfl (Ty.sub_eq (congrArg (Ty.sl I64) aw_clash)) ?_
  refine t_as (s := 13) rfl (Ty.sub_int aw_cl.1.symm) ?_
  refine t_as (s := 14) rfl (Ty.sub_eq (congrArg (Ty.sl I64) aw_wrong)) ?_
  refine t_as (s := 15) rfl (Ty.sub_int aw_wr.1.symm) ?_
  refine t_as (s := 17) rfl (Ty.sub_int aw_some) ?_
  refine t_forget (B := live [(1, Ty.sl SpanE [⟨20, 30⟩, ⟨60, 90⟩, ⟨20, 80⟩]), (2, Ty.int .i64 0), (3, Ty.sl SpanE [⟨20, 30⟩, ⟨60, 90⟩, ⟨50, 85⟩]), (4, Ty.int .i64 0), (5, Ty.ptr 6 0), (6, Ty.int .i64 0), (7, Ty.int .i64 1), (8, Ty.int .i64 0), (10, Ty.int .i64 1), (11, Ty.int .i64 0), (12, Ty.sl I64 [0, 1]), (13, Ty.int .i64 0), (14, Ty.sl I64 [0]), (15, Ty.int .i64 0), (17, Ty.int .i64 7)] [(6, Cont.cells 37 (SpanE.tys ⟨25, 35⟩))]) ?_ ?_
  · (refine Ent.mk' ?_ ?_ <;> (repeat' (first | exact allSub_zero | exact allTags_nil | refine allSub_succ' ?_ (Ty.sub_any _) | refine allSub_succ' ?_ (Ty.sub_refl _) | refine allTags_cons rfl (Cont.sub_refl _) ?_)))
  refine t_draw mixed rfl ?_
  refine mvI rfl ?_
  refine r_bin rfl rfl rfl ?_
  refine mvB rfl ?_
  apply r_guard (s := 66) rfl rfl rfl
  · intro hg; apply opT_of; (refine mvI rfl ?_); refine r_nil ?_; exact rfl
  · exact rfl
  · exact rfl
  apply r_guard (s := 66) rfl rfl rfl
  · intro hg; apply opT_strip (s := 67) rfl (by exact hg); apply opT_of; (refine r_bin rfl rfl rfl ?_); refine r_nil ?_; exact rfl
  · exact rfl
  · exact rfl
  refine r_and rfl rfl ?_
  refine mvB rfl ?_
  apply r_guard (s := 70) rfl rfl rfl
  · intro hg; apply opT_of; (refine mvI rfl ?_); refine r_nil ?_; exact rfl
  · exact rfl
  · exact rfl
  apply r_guard (s := 70) rfl rfl rfl
  · intro hg; apply opT_strip (s := 71) rfl (by exact hg); apply opT_of; (refine r_bin rfl rfl rfl ?_); refine r_nil ?_; exact rfl
  · exact rfl
  · exact rfl
  refine r_and rfl rfl ?_
  refine mvB rfl ?_
  apply r_guard (s := 74) rfl rfl rfl
  · intro hg; apply opT_of; (refine mvI rfl ?_); refine r_nil ?_; exact rfl
  · exact rfl
  · exact rfl
  apply r_guard (s := 74) rfl rfl rfl
  · intro hg; apply opT_strip (s := 75) rfl (by exact hg); apply opT_of; (refine r_bin rfl rfl rfl ?_); refine r_nil ?_; exact rfl
  · exact rfl
  · exact rfl
  refine r_and rfl rfl ?_
  refine mvB rfl ?_
  apply r_guard (s := 78) rfl rfl rfl
  · intro hg; apply opT_of; (refine mvI rfl ?_); refine r_nil ?_; exact rfl
  · exact rfl
  · exact rfl
  apply r_guard (s := 78) rfl rfl rfl
  · intro hg; apply opT_strip (s := 79) rfl (by exact hg); apply opT_of; (refine r_bin rfl rfl rfl ?_); refine r_nil ?_; exact rfl
  · exact rfl
  · exact rfl
  refine r_and rfl rfl ?_
  refine mvB rfl ?_
  apply r_guard (s := 82) rfl rfl rfl
  · intro hg; apply opT_of; (refine mvI rfl ?_); refine r_nil ?_; exact rfl
  · exact rfl
  · exact rfl
  apply r_guard (s := 82) rfl rfl rfl
  · intro hg; apply opT_strip (s := 83) rfl (by exact hg); apply opT_of; (refine r_bin rfl rfl rfl ?_); refine r_nil ?_; exact rfl
  · exact rfl
  · exact rfl
  refine r_and rfl rfl ?_
  refine mvB rfl ?_
  apply r_guard (s := 86) rfl rfl rfl
  · intro hg; apply opT_of; (refine mvI rfl ?_); refine r_nil ?_; exact rfl
  · exact rfl
  · exact rfl
  apply r_guard (s := 86) rfl rfl rfl
  · intro hg; apply opT_strip (s := 87) rfl (by exact hg); apply opT_of; (refine r_bin rfl rfl rfl ?_); refine r_nil ?_; exact rfl
  · exact rfl
  · exact rfl
  refine r_and rfl rfl ?_
  refine mvB rfl ?_
  apply r_guard (s := 90) rfl rfl rfl
  · intro hg; apply opT_of; (refine mvI rfl ?_); refine r_nil ?_; exact rfl
  · exact rfl
  · exact rfl
  apply r_guard (s := 90) rfl rfl rfl
  · intro hg; apply opT_strip (s := 91) rfl (by exact hg); apply opT_of; (refine r_bin rfl rfl rfl ?_); refine r_nil ?_; exact rfl
  · exact rfl
  · exact rfl
  refine r_and rfl rfl ?_
  refine mvB rfl ?_
  apply r_guard (s := 94) rfl rfl rfl
  · intro hg; apply opT_of; (refine mvS rfl ?_); refine r_nil ?_; exact rfl
  · exact rfl
  · exact rfl
  apply r_guard (s := 94) rfl rfl rfl
  · intro hg; apply opT_of; (refine r_call (c_span _ _) rfl rfl rfl rfl rfl ?_); refine r_nil ?_; exact rfl
  · exact rfl
  · exact rfl
  apply r_guard (s := 94) rfl rfl rfl
  · intro hg; apply opT_of; (refine r_call (c_span _ _) rfl rfl rfl rfl rfl ?_); refine r_nil ?_; exact rfl
  · exact rfl
  · exact rfl
  apply r_guard (s := 94) rfl rfl rfl
  · intro hg; apply opT_of; (refine r_call (c_span _ _) rfl rfl rfl rfl rfl ?_); refine r_nil ?_; exact rfl
  · exact rfl
  · exact rfl
  apply r_guard (s := 94) rfl rfl rfl
  · intro hg; apply opT_strip (s := 96) rfl (by exact hg); apply opT_strip (s := 97) rfl (by exact hg); apply opT_strip (s := 98) rfl (by exact hg); apply opT_of; (refine r_buildSlice (E := SpanE) (xs := [⟨20, 30⟩, ⟨60, 90⟩, ⟨20, 80⟩]) rfl rfl rfl rfl rfl (by decide) (by decide) (by repeat (first | exact (Parts.nil : Parts _ _ [] _) | (show Parts _ _ ((_, _) :: _) _; apply Parts.agg; (· exact (rfl : _ = Ty.agg _))))) (by exact rfl) rfl ?_); refine r_nil ?_; exact rfl
  · exact rfl
  · exact rfl
  apply r_guard (s := 94) rfl rfl rfl
  · intro hg; apply opT_strip (s := 95) rfl (by exact hg); apply opT_strip (s := 99) rfl (by exact hg); apply opT_of; (refine r_call (c_Eq_spn _ _) rfl rfl rfl rfl rfl ?_); refine r_nil ?_; exact rfl
  · exact rfl
  · exact rfl
  refine r_and rfl rfl ?_
  refine mvB rfl ?_
  apply r_guard (s := 102) rfl rfl rfl
  · intro hg; apply opT_of; (refine mvS rfl ?_); refine r_nil ?_; exact rfl
  · exact rfl
  · exact rfl
  apply r_guard (s := 102) rfl rfl rfl
  · intro hg; apply opT_of; (refine r_call (c_span _ _) rfl rfl rfl rfl rfl ?_); refine r_nil ?_; exact rfl
  · exact rfl
  · exact rfl
  apply r_guard (s := 102) rfl rfl rfl
  · intro hg; apply opT_of; (refine r_call (c_span _ _) rfl rfl rfl rfl rfl ?_); refine r_nil ?_; exact rfl
  · exact rfl
  · exact rfl
  apply r_guard (s := 102) rfl rfl rfl
  · intro hg; apply opT_of; (refine r_call (c_span _ _) rfl rfl rfl rfl rfl ?_); refine r_nil ?_; exact rfl
  · exact rfl
  · exact rfl
  apply r_guard (s := 102) rfl rfl rfl
  · intro hg; apply opT_strip (s := 104) rfl (by exact hg); apply opT_strip (s := 105) rfl (by exact hg); apply opT_strip (s := 106) rfl (by exact hg); apply opT_of; (refine r_buildSlice (E := SpanE) (xs := [⟨20, 30⟩, ⟨60, 90⟩, ⟨50, 85⟩]) rfl rfl rfl rfl rfl (by decide) (by decide) (by repeat (first | exact (Parts.nil : Parts _ _ [] _) | (show Parts _ _ ((_, _) :: _) _; apply Parts.agg; (· exact (rfl : _ = Ty.agg _))))) (by exact rfl) rfl ?_); refine r_nil ?_; exact rfl
  · exact rfl
  · exact rfl
  apply r_guard (s := 102) rfl rfl rfl
  · intro hg; apply opT_strip (s := 103) rfl (by exact hg); apply opT_strip (s := 107) rfl (by exact hg); apply opT_of; (refine r_call (c_Eq_spn _ _) rfl rfl rfl rfl rfl ?_); refine r_nil ?_; exact rfl
  · exact rfl
  · exact rfl
  refine r_and rfl rfl ?_
  refine mvB rfl ?_
  apply r_guard (s := 110) rfl rfl rfl
  · intro hg; apply opT_of; (refine r_load_ptrN rfl rfl (by decide) rfl rfl (by exact Nat.le_of_ble_eq_true rfl) ?_); refine r_nil ?_; exact rfl
  · exact rfl
  · exact rfl
  apply r_guard (s := 110) rfl rfl rfl
  · intro hg; apply opT_of; (refine r_call (c_span _ _) rfl rfl rfl rfl rfl ?_); refine r_nil ?_; exact rfl
  · exact rfl
  · exact rfl
  apply r_guard (s := 110) rfl rfl rfl
  · intro hg; apply opT_strip (s := 111) rfl (by exact hg); apply opT_strip (s := 112) rfl (by exact hg); apply opT_of; (refine r_eql_A (eqt37 _ _ _ _) rfl rfl ?_); refine r_nil ?_; exact rfl
  · exact rfl
  · exact rfl
  refine r_and rfl rfl ?_
  refine mvB rfl ?_
  apply r_guard (s := 115) rfl rfl rfl
  · intro hg; apply opT_of; (refine mvI rfl ?_); refine r_nil ?_; exact rfl
  · exact rfl
  · exact rfl
  apply r_guard (s := 115) rfl rfl rfl
  · intro hg; apply opT_strip (s := 116) rfl (by exact hg); apply opT_of; (refine r_bin rfl rfl rfl ?_); refine r_nil ?_; exact rfl
  · exact rfl
  · exact rfl
  refine r_and rfl rfl ?_
  refine mvB rfl ?_
  apply r_guard (s := 119) rfl rfl rfl
  · intro hg; apply opT_of; (refine mvI rfl ?_); refine r_nil ?_; exact rfl
  · exact rfl
  · exact rfl
  apply r_guard (s := 119) rfl rfl rfl
  · intro hg; apply opT_strip (s := 120) rfl (by exact hg); apply opT_of; (refine r_bin rfl rfl rfl ?_); refine r_nil ?_; exact rfl
  · exact rfl
  · exact rfl
  refine r_and rfl rfl ?_
  refine mvB rfl ?_
  apply r_guard (s := 123) rfl rfl rfl
  · intro hg; apply opT_of; (refine mvS rfl ?_); refine r_nil ?_; exact rfl
  · exact rfl
  · exact rfl
  apply r_guard (s := 123) rfl rfl rfl
  · intro hg; apply opT_of; (refine r_buildSlice (E := I64) (xs := [0, 1]) rfl rfl rfl rfl rfl (by decide) (by decide) (by repeat (first | exact (Parts.nil : Parts _ _ [] _) | (show Parts _ _ ((_, _) :: _) _; apply Parts.one; (· exact (rfl : _ = Ty.int _ _)); (· exact rfl)))) (by exact rfl) rfl ?_); refine r_nil ?_; exact rfl
  · exact rfl
  · exact rfl
  apply r_guard (s := 123) rfl rfl rfl
  · intro hg; apply opT_strip (s := 124) rfl (by exact hg); apply opT_strip (s := 125) rfl (by exact hg); apply opT_of; (refine r_call (c_Eq_int _ _) rfl rfl rfl rfl rfl ?_); refine r_nil ?_; exact rfl
  · exact rfl
  · exact rfl
  refine r_and rfl rfl ?_
  refine mvB rfl ?_
  apply r_guard (s := 128) rfl rfl rfl
  · intro hg; apply opT_of; (refine mvS rfl ?_); refine r_nil ?_; exact rfl
  · exact rfl
  · exact rfl
  apply r_guard (s := 128) rfl rfl rfl
  · intro hg; apply opT_of; (refine r_buildSlice (E := I64) (xs := [0]) rfl rfl rfl rfl rfl (by decide) (by decide) (by repeat (first | exact (Parts.nil : Parts _ _ [] _) | (show Parts _ _ ((_, _) :: _) _; apply Parts.one; (· exact (rfl : _ = Ty.int _ _)); (· exact rfl)))) (by exact rfl) rfl ?_); refine r_nil ?_; exact rfl
  · exact rfl
  · exact rfl
  apply r_guard (s := 128) rfl rfl rfl
  · intro hg; apply opT_strip (s := 129) rfl (by exact hg); apply opT_strip (s := 130) rfl (by exact hg); apply opT_of; (refine r_call (c_Eq_int _ _) rfl rfl rfl rfl rfl ?_); refine r_nil ?_; exact rfl
  · exact rfl
  · exact rfl
  refine r_and rfl rfl ?_
  refine asB rfl ?_
  refine r_nil ?_
  refine ⟨by kernel_rfl, ?_⟩
  refine i_then ?_
  refine t_ret ?_
  refine i_rp1 rfl rfl ?_
  all_goals exact ret_refl rfl rfl
  all_goals trace_state
end Go.Proofs.YtelbollidfdcjaaGreat

namespace Go.Proofs.YtelbollidfdcjaaGreat
open Go Go.T
structure Sk where
  grain : List Int
  taken : Int
  mixed : Int
def U8 : El Int := El.mk' 1 (fun n => [Ty.int .u8 n]) (fun _ => rfl) (fun _ => ⟨rfl, rfl, rfl⟩)
def skTys (s : Sk) : List Ty := [Ty.sl U8 s.grain, Ty.int .i64 s.taken, Ty.int .u32 s.mixed]
def mixB (s : Sk) : Int := IntKind.u32.wrap (bits .xor .u32 s.mixed (IntKind.u32.wrap (nth s.grain (s.taken.tmod s.grain.length).toNat)) * 16777619)
def skMix1 (s : Sk) : Sk := if (s.grain.length : Int) > 0 then { s with mixed := mixB s } else s
def skTake (s : Sk) : Sk := { s with taken := s.taken + 1 }
def mixC (s : Sk) : Int := IntKind.u32.wrap (IntKind.u32.wrap (s.mixed * 1664525) + 1013904223)
def skMix2 (s : Sk) : Sk := if s.taken > (s.grain.length : Int) then { s with mixed := mixC s } else s
theorem skMix2_pos {s : Sk} (h : (s.grain.length : Int) < s.taken) : skMix2 s = { s with mixed := mixC s } := if_pos h
theorem skMix2_neg {s : Sk} (h : ¬ (s.grain.length : Int) < s.taken) : skMix2 s = s := if_neg h
def skNext (s : Sk) : Sk := skMix2 (skTake (skMix1 s))
theorem skNext_neg {s : Sk} (h : ¬ ((skMix1 s).grain.length : Int) < (skMix1 s).taken + 1) : (skMix1 s).mixed = (skNext s).mixed := (congrArg Sk.mixed (skMix2_neg (s := skTake (skMix1 s)) h)).symm
def skVal (s : Sk) : Int := IntKind.i64.wrap (bits .and .u32 (bits .xor .u32 s.mixed (s.mixed / 2 ^ (15 : Int).toNat) / 2 ^ (8 : Int).toNat) 65535)
def Sk.Ok (s : Sk) (n : Int) : Prop := 0 ≤ s.taken ∧ s.taken + n ≤ 4611686018427387904
theorem skMix1_pos {s : Sk} (h : (0 : Int) < s.grain.length) : skMix1 s = { s with mixed := mixB s } := if_pos h
theorem skMix1_neg {s : Sk} (h : ¬ (0 : Int) < s.grain.length) : skMix1 s = s := if_neg h
theorem tmod_in {a b : Int} (ha : 0 ≤ a) (hb : 0 < b) : 0 ≤ a.tmod b ∧ a.tmod b < b := by
  rw [Int.tmod_eq_emod_of_nonneg ha]
  exact ⟨Int.emod_nonneg _ (by omega), Int.emod_lt_of_pos _ hb⟩
theorem skMix1_taken (s : Sk) : (skMix1 s).taken = s.taken := by unfold skMix1; split <;> rfl
theorem skMix1_grain (s : Sk) : (skMix1 s).grain = s.grain := by unfold skMix1; split <;> rfl
theorem skMix2_taken (s : Sk) : (skMix2 s).taken = s.taken := by unfold skMix2; split <;> rfl
theorem skMix2_grain (s : Sk) : (skMix2 s).grain = s.grain := by unfold skMix2; split <;> rfl
theorem skNext_taken (s : Sk) : (skNext s).taken = s.taken + 1 := by unfold skNext; rw [skMix2_taken, skTake, skMix1_taken]
theorem bits_and_ffff (a : Int) : 0 ≤ bits .and .u32 a 65535 ∧ bits .and .u32 a 65535 ≤ 65535 := by
  have e : bits .and .u32 a 65535 = IntKind.u32.wrap (((BitVec.ofInt 32 a &&& BitVec.ofInt 32 65535).toNat : Nat) : Int) := rfl
  have h1 : (BitVec.ofInt 32 a &&& BitVec.ofInt 32 65535).toNat ≤ 65535 := by
    rw [BitVec.toNat_and]
    exact Nat.and_le_right
  rw [e]
  generalize (BitVec.ofInt 32 a &&& BitVec.ofInt 32 65535).toNat = n at h1
  have : IntKind.u32.wrap (n : Int) = (n : Int) % 4294967296 := rfl
  rw [this]; omega
theorem skVal_bound (s : Sk) : 0 ≤ skVal s ∧ skVal s ≤ 65535 := by
  have h := bits_and_ffff (bits .xor .u32 s.mixed (s.mixed / 2 ^ (15 : Int).toNat) / 2 ^ (8 : Int).toNat)
  unfold skVal
  rw [IntWalk.i64_in _ (by omega)]; exact h
def skBelow (s : Sk) (n : Int) : Int := (skVal (skNext s)).tmod (max 1 n)
theorem skBelow_bound (s : Sk) (n : Int) : 0 ≤ skBelow s n ∧ skBelow s n < max 1 n ∧ skBelow s n ≤ 65535 := by
  have h := skVal_bound (skNext s)
  unfold skBelow
  have h1 : (skVal (skNext s)).tmod (max 1 n) = skVal (skNext s) % max 1 n := Int.tmod_eq_emod_of_nonneg h.1
  have h2 := Int.emod_lt_of_pos (skVal (skNext s)) (show 0 < max 1 n by omega)
  have h3 := Int.emod_nonneg (skVal (skNext s)) (show max 1 n ≠ 0 by omega)
  have h4 : skVal (skNext s) % max 1 n ≤ skVal (skNext s) := by
    have := Int.mul_ediv_add_emod (skVal (skNext s)) (max 1 n)
    have hq : 0 ≤ skVal (skNext s) / max 1 n := Int.ediv_nonneg h.1 (by omega)
    have : 0 ≤ max 1 n * (skVal (skNext s) / max 1 n) := Int.mul_nonneg (by omega) hq
    omega
  omega
def skAmong (s : Sk) (lo hi : Int) : Int := lo + skBelow s (hi - lo + 1)
def skRare (s : Sk) (n : Int) : Bool := decide (skBelow s n = 0)
def skFill (grain : List Int) : Sk := ⟨grain, 0, bits .xor .u32 2166136261 (IntKind.u32.wrap grain.length)⟩
theorem skFill_ok (g : List Int) : (skFill g).Ok 4000000000000000000 := by unfold skFill Sk.Ok; simp
def modM (v n : Int) : Int := if n < 1 then 0 else (v.tmod n + n).tmod n
def insL (xs : List Int) (i : Nat) (k : Int) : List Int := xs.take i ++ k :: xs.drop i
def shufUp (s : Sk) : Nat → List Int × Sk
  | 0 => ([], s)
  | k + 1 => (insL (shufUp s k).1 (skBelow (shufUp s k).2 ((k : Int) + 1)).toNat k, skNext (shufUp s k).2)
end Go.Proofs.YtelbollidfdcjaaGreat

namespace Go.Proofs.YtelbollidfdcjaaGreat
open Go Go.T
set_option maxHeartbeats 2000000
attribute [local irreducible] dInt dBool dSl dPp dPtr dAgg dTup dClo dAny dEx dStr dGd dCells dVec dVs dRow dOp nth Tri Into TOps Ctr bodyPost Exit.then Exit.inBlock Code.wp Code.wpIn dWhen dPa dPe dAo dArr dMp dPm dMap dCJ CtrG CtrI OpY keepPost iterPost bodyPostM roundQ
set_option maxRecDepth 100000 in
theorem c_handful (s : Sk) (h : s.Ok 1) : CtrG Tryz.prog 139 [1000] [(1000, Cont.cells 149 (skTys s))] [Ty.ptr 1000 0] [(1000, Cont.cells 149 (skTys (skNext s)))] (Ty.int .i64 (skVal (skNext s))) := by
  refine fnG_intro Tryz.func139 rfl (by decide) Tryz.ntmps139 (by exact Nat.le_of_ble_eq_true rfl) fun w0 M0 => ?_
  have h0 : 0 ≤ s.taken ∧ s.taken + 1 ≤ 4611686018427387904 := h
  refine t_seq ?_
  refine t_region ?_
  refine asI rfl ?_
  refine r_nil ?_
  refine i_then ?_
  refine t_join (J := live [(0, Ty.ptr 1000 0)] [(1000, Cont.cells 149 (skTys (skMix1 s)))]) ?_ ?_
  ·
    refine t_seq ?_
    refine t_region ?_
    refine mvO rfl ?_
    refine r_nilCheck_ptr rfl ?_
    refine r_field_ptr rfl rfl rfl rfl rfl (by decide) ?_
    refine r_load_ptr rfl rfl (by decide) rfl rfl rfl ?_
    refine r_len rfl rfl rfl ?_
    refine asI rfl ?_
    refine r_nil ?_
    refine i_then ?_
    refine t_seq ?_
    refine t_region ?_
    refine mvI rfl ?_
    refine r_bin rfl rfl rfl ?_
    refine r_nil ?_
    refine i_then ?_
    refine t_cond_dec rfl (fun hc1 => ?_) (fun hc1 => ?_)
    ·
      have hm := tmod_in (a := s.taken) (b := s.grain.length) h0.1 (by omega)
      refine t_draw mixed rfl ?_
      refine mvO rfl ?_
      refine mvO rfl ?_
      refine r_nilCheck_ptr rfl ?_
      refine r_field_ptr rfl rfl rfl rfl rfl (by decide) ?_
      refine r_load_ptr rfl rfl (by decide) rfl rfl rfl ?_
      refine mvO rfl ?_
      refine r_nilCheck_ptr rfl ?_
      refine r_field_ptr rfl rfl rfl rfl rfl (by decide) ?_
      refine r_load_ptr rfl rfl (by decide) rfl rfl rfl ?_
      refine mvO rfl ?_
      refine r_nilCheck_ptr rfl ?_
      refine r_field_ptr rfl rfl rfl rfl rfl (by decide) ?_
      refine r_load_ptr rfl rfl (by decide) rfl rfl rfl ?_
      refine mvI rfl ?_
      refine r_rem rfl rfl (by omega) ?_
      refine r_index_sl rfl rfl rfl rfl rfl rfl (by omega) (by omega) ?_
      refine r_load_pp rfl rfl rfl rfl ?_
      refine r_conv rfl rfl rfl rfl ?_
      refine r_bin rfl rfl rfl ?_
      refine r_bin rfl rfl rfl ?_
      refine r_nilCheck_ptr rfl ?_
      refine r_field_ptr rfl rfl rfl rfl rfl (by decide) ?_
      refine r_store1 rfl rfl (by decide) rfl rfl (by exact (rfl : _ = Ty.int _ _)) rfl (by exact Nat.le_of_ble_eq_true rfl) rfl rfl (by exact rfl) ?_
      refine r_nil ?_
      refine ⟨by kernel_rfl, ?_⟩
      refine i_join ?_
      (refine Ent.mk' ?_ ?_ <;> (repeat' (first | exact allSub_zero | exact allTags_nil | exact subs_nil | refine allSub_succ' ?_ (Ty.sub_any _) | refine allSub_succ' ?_ (Ty.sub_refl _) | refine allTags_cons rfl (Cont.sub_subs ?_) ?_ | refine subs_cons ?_ ?_)))
      all_goals first | exact Ty.sub_int (congrArg Sk.mixed (skMix1_pos hc1).symm) | exact Ty.sub_int (skMix1_taken s).symm | exact Ty.sub_sl (skMix1_grain s).symm
    ·
      refine t_skip ?_
      refine i_join ?_
      (refine Ent.mk' ?_ ?_ <;> (repeat' (first | exact allSub_zero | exact allTags_nil | exact subs_nil | refine allSub_succ' ?_ (Ty.sub_any _) | refine allSub_succ' ?_ (Ty.sub_refl _) | refine allTags_cons rfl (Cont.sub_subs ?_) ?_ | refine subs_cons ?_ ?_)))
      all_goals first | exact Ty.sub_int (congrArg Sk.mixed (skMix1_neg hc1).symm) | exact Ty.sub_int (skMix1_taken s).symm | exact Ty.sub_sl (skMix1_grain s).symm
  ·
    refine t_seq ?_
    have h1 := skMix1_taken s
    refine t_region ?_
    refine mvO rfl ?_
    refine r_nilCheck_ptr rfl ?_
    refine r_field_ptr rfl rfl rfl rfl rfl (by decide) ?_
    refine r_load_ptr rfl rfl (by decide) rfl rfl rfl ?_
    refine r_add rfl rfl (by omega) (by omega) ?_
    refine r_nilCheck_ptr rfl ?_
    refine r_field_ptr rfl rfl rfl rfl rfl (by decide) ?_
    refine r_store1 rfl rfl (by decide) rfl rfl (by exact (rfl : _ = Ty.int _ _)) rfl (by exact Nat.le_of_ble_eq_true rfl) rfl rfl (by exact rfl) ?_
    refine r_nil ?_
    refine i_then ?_
    refine t_join (J := live [(0, Ty.ptr 1000 0)] [(1000, Cont.cells 149 (skTys (skNext s)))]) ?_ ?_
    ·
      refine t_seq ?_
      refine t_draw mixed rfl ?_
      refine mvO rfl ?_
      refine r_nilCheck_ptr rfl ?_
      refine r_field_ptr rfl rfl rfl rfl rfl (by decide) ?_
      refine r_load_ptr rfl rfl (by decide) rfl rfl rfl ?_
      refine mvO rfl ?_
      refine r_nilCheck_ptr rfl ?_
      refine r_field_ptr rfl rfl rfl rfl rfl (by decide) ?_
      refine r_load_ptr rfl rfl (by decide) rfl rfl rfl ?_
      refine r_len rfl rfl rfl ?_
      refine r_bin rfl rfl rfl ?_
      refine r_nil ?_
      refine ⟨by kernel_rfl, ?_⟩
      refine i_then ?_
      refine t_cond_dec rfl (fun hc2 => ?_) (fun hc2 => ?_)
      ·
        refine t_region ?_
        refine mvO rfl ?_
        refine mvO rfl ?_
        refine r_nilCheck_ptr rfl ?_
        refine r_field_ptr rfl rfl rfl rfl rfl (by decide) ?_
        refine r_load_ptr rfl rfl (by decide) rfl rfl rfl ?_
        refine r_bin rfl rfl rfl ?_
        refine r_bin rfl rfl rfl ?_
        refine r_nilCheck_ptr rfl ?_
        refine r_field_ptr rfl rfl rfl rfl rfl (by decide) ?_
        refine r_store1 rfl rfl (by decide) rfl rfl (by exact (rfl : _ = Ty.int _ _)) rfl (by exact Nat.le_of_ble_eq_true rfl) rfl rfl (by exact rfl) ?_
        refine r_nil ?_
        refine i_join ?_
        (refine Ent.mk' ?_ ?_ <;> (repeat' (first | exact allSub_zero | exact allTags_nil | exact subs_nil | refine allSub_succ' ?_ (Ty.sub_any _) | refine allSub_succ' ?_ (Ty.sub_refl _) | refine allTags_cons rfl (Cont.sub_subs ?_) ?_ | refine subs_cons ?_ ?_)))
        all_goals first | exact Ty.sub_int (congrArg Sk.mixed (skMix2_pos (s := skTake (skMix1 s)) hc2).symm) | exact Ty.sub_int (skMix2_taken (skTake (skMix1 s))).symm | exact Ty.sub_sl (skMix2_grain (skTake (skMix1 s))).symm
      ·
        refine t_skip ?_
        refine i_join ?_
        (refine Ent.mk' ?_ ?_ <;> (repeat' (first | exact allSub_zero | exact allTags_nil | exact subs_nil | refine allSub_succ' ?_ (Ty.sub_any _) | refine allSub_succ' ?_ (Ty.sub_refl _) | refine allTags_cons rfl (Cont.sub_subs ?_) ?_ | refine subs_cons ?_ ?_)))
        all_goals first | exact Ty.sub_int (skNext_neg hc2) | exact Ty.sub_int (skMix2_taken (skTake (skMix1 s))).symm | exact Ty.sub_sl (skMix2_grain (skTake (skMix1 s))).symm
    ·
      refine t_seq ?_
      refine t_draw mixed rfl ?_
      refine mvO rfl ?_
      refine r_nilCheck_ptr rfl ?_
      refine r_field_ptr rfl rfl rfl rfl rfl (by decide) ?_
      refine r_load_ptr rfl rfl (by decide) rfl rfl rfl ?_
      refine mvO rfl ?_
      refine r_nilCheck_ptr rfl ?_
      refine r_field_ptr rfl rfl rfl rfl rfl (by decide) ?_
      refine r_load_ptr rfl rfl (by decide) rfl rfl rfl ?_
      refine r_shr rfl rfl (by omega) (by decide) ?_
      refine r_bin rfl rfl rfl ?_
      refine r_shr rfl rfl (by omega) (by decide) ?_
      refine r_bin rfl rfl rfl ?_
      refine r_conv rfl rfl rfl rfl ?_
      refine asI rfl ?_
      refine r_nil ?_
      refine ⟨by kernel_rfl, ?_⟩
      refine i_then ?_
      refine t_ret ?_
      refine g_ret1 [1000] rfl rfl (by decide) (by repeat (first | exact rc_nil | refine rc_cons rfl (cc_cells_eq (by decide) rfl rfl rfl) ?_)) ?_
      all_goals exact rg_cv (cv_pub rfl rfl)
      all_goals exact rg_cv (cv_eq rfl rfl rfl)
set_option maxRecDepth 100000 in
theorem c_Below (s : Sk) (h : s.Ok 1) (n : Int) : CtrG Tryz.prog 64 [1000] [(1000, Cont.cells 149 (skTys s))] [Ty.ptr 1000 0, Ty.int .i64 n] [(1000, Cont.cells 149 (skTys (skNext s)))] (Ty.int .i64 (skBelow s n)) := by
  refine fnG_intro Tryz.func64 rfl (by decide) Tryz.ntmps64 (by exact Nat.le_of_ble_eq_true rfl) fun w0 M0 => ?_
  refine t_seq ?_
  refine t_region ?_
  refine asI rfl ?_
  refine r_nil ?_
  refine i_then ?_
  refine t_seq ?_
  refine t_region ?_
  refine mvO rfl ?_
  refine r_callG [(1000, 1000)] [] [(1000, Cont.cells 149 (skTys (skNext s)))] (c_handful s h) rfl rfl (by repeat (first | exact cv_nil | refine cv_cons ?_ ?_ | exact cv_ptr List.mem_cons_self)) (pre_cons (a := 1000) (b := 1000) (by exact List.mem_cons_self) rfl (cc_cells_eq (by exact List.mem_cons_self) rfl rfl rfl) pre_nil) (post_cons (a := 1000) (b := 1000) (by exact List.mem_cons_self) rfl (cc_cells_eq (by exact List.mem_cons_self) rfl rfl rfl) post_nil) (cv_pub rfl rfl) ?_
  refine mvI rfl ?_
  refine r_max rfl rfl ?_
  refine r_rem rfl rfl (by omega) ?_
  refine asI rfl ?_
  refine r_nil ?_
  refine i_then ?_
  refine t_ret ?_
  refine g_ret1 [1000] rfl rfl (by decide) (by repeat (first | exact rc_nil | refine rc_cons rfl (cc_cells_eq (by decide) rfl rfl rfl) ?_)) ?_
  all_goals exact rg_cv (cv_pub rfl rfl)
set_option maxRecDepth 100000 in
theorem c_Among (s : Sk) (h : s.Ok 1) (lo hi : Int) (hlo : -1000000 ≤ lo ∧ lo ≤ 1000000) (hhi : -1000000 ≤ hi ∧ hi ≤ 1000000) : CtrG Tryz.prog 81 [1000] [(1000, Cont.cells 149 (skTys s))] [Ty.ptr 1000 0, Ty.int .i64 lo, Ty.int .i64 hi] [(1000, Cont.cells 149 (skTys (skNext s)))] (Ty.int .i64 (skAmong s lo hi)) := by
  refine fnG_intro Tryz.func81 rfl (by decide) Tryz.ntmps81 (by exact Nat.le_of_ble_eq_true rfl) fun w0 M0 => ?_
  have hb := skBelow_bound s (hi - lo + 1)
  refine t_seq ?_
  refine t_region ?_
  refine asI rfl ?_
  refine r_nil ?_
  refine i_then ?_
  refine t_seq ?_
  refine t_region ?_
  refine mvI rfl ?_
  refine mvO rfl ?_
  refine mvI rfl ?_
  refine mvI rfl ?_
  refine r_sub rfl rfl (by omega) (by omega) ?_
  refine r_add rfl rfl (by omega) (by omega) ?_
  refine r_callG [(1000, 1000)] [] [(1000, Cont.cells 149 (skTys (skNext s)))] (c_Below s h _) rfl rfl (by repeat (first | exact cv_nil | refine cv_cons ?_ ?_ | exact cv_ptr List.mem_cons_self | exact cv_pub rfl rfl)) (pre_cons (a := 1000) (b := 1000) (by exact List.mem_cons_self) rfl (cc_cells_eq (by exact List.mem_cons_self) rfl rfl rfl) pre_nil) (post_cons (a := 1000) (b := 1000) (by exact List.mem_cons_self) rfl (cc_cells_eq (by exact List.mem_cons_self) rfl rfl rfl) post_nil) (cv_pub rfl rfl) ?_
  refine r_add rfl rfl (by omega) (by omega) ?_
  refine asI rfl ?_
  refine r_nil ?_
  refine i_then ?_
  refine t_ret ?_
  refine g_ret1 [1000] rfl rfl (by decide) (by repeat (first | exact rc_nil | refine rc_cons rfl (cc_cells_eq (by decide) rfl rfl rfl) ?_)) ?_
  all_goals exact rg_cv (cv_pub rfl rfl)
set_option maxRecDepth 100000 in
theorem c_Fill (g : List Int) : CtrG Tryz.prog 18 [] [] [Ty.sl U8 g] [(10, Cont.cells 149 (skTys (skFill g)))] (Ty.ptr 10 0) := by
  refine fnG_intro Tryz.func18 rfl (by decide) Tryz.ntmps18 (by exact Nat.le_of_ble_eq_true rfl) fun w0 M0 => ?_
  refine t_seq ?_
  refine t_region ?_
  refine asX rfl ?_
  refine r_nil ?_
  refine i_then ?_
  refine t_seq ?_
  skip
  refine t_region ?_
  refine mvS rfl ?_
  refine mvS rfl ?_
  refine r_len rfl rfl rfl ?_
  refine r_conv rfl rfl rfl rfl ?_
  refine r_bin rfl rfl rfl ?_
  refine r_build rfl rfl (by exact List.cons_ne_nil _ _) rfl (by repeat (first | exact (Parts.nil : Parts _ _ [] _) | (show Parts _ _ ((_, _) :: _) _; apply Parts.one; (· first | exact (rfl : _ = Ty.int _ _) | exact (rfl : _ = Ty.sl _ _)); (· exact rfl)))) (by exact (rfl : _ = some [_, _, _])) ?_
  refine r_box_own rfl rfl rfl ?_
  refine asO rfl ?_
  refine r_nil ?_
  refine i_then ?_
  refine t_ret ?_
  refine g_ret1 [10] rfl rfl (by decide) (by repeat (first | exact rc_nil | refine rc_cons rfl (cc_cells_eq (by decide) rfl rfl rfl) ?_)) ?_
  all_goals skip
  exact rg_cv (cv_ptr (by exact List.mem_cons_self))
end Go.Proofs.YtelbollidfdcjaaGreat

namespace Go.Proofs.YtelbollidfdcjaaGreat
open Go Go.T
def inMove (m : Move) (bin time : Int) : Bool := decide (m.day < time) && decide (m.dst = bin)
def outMove (m : Move) (bin time : Int) : Bool := decide (m.day < time) && decide (m.src = bin)
def contHalf (y : Yard) (a : Amts) (bin time : Int) (k : Nat) (n : Int) : Int := n + if inMove (nth y.moves k) bin time = true then nth a.moved k else 0
def contUp (y : Yard) (a : Amts) (bin time : Int) : Nat → Int
  | 0 => nth a.first bin.toNat
  | k + 1 => contHalf y a bin time k (contUp y a bin time k) - if outMove (nth y.moves k) bin time = true then nth a.moved k else 0
def contI (y : Yard) (a : Amts) (bin time : Int) : Int := contUp y a bin time y.moves.length
section
variable {y : Yard} {a : Amts} {bin time : Int} {k b t : Nat}
theorem cu_tt (h1 : inMove (nth y.moves k) bin time = true) (h2 : outMove (nth y.moves k) bin time = true) : contUp y a bin time k + nth a.moved k - nth a.moved k = contUp y a bin time (k + 1) := by
  show _ = contHalf y a bin time k (contUp y a bin time k) - _; unfold contHalf; rw [if_pos h1, if_pos h2]
theorem cu_tf (h1 : inMove (nth y.moves k) bin time = true) (h2 : outMove (nth y.moves k) bin time = false) : contUp y a bin time k + nth a.moved k = contUp y a bin time (k + 1) := by
  show _ = contHalf y a bin time k (contUp y a bin time k) - _; unfold contHalf; rw [if_pos h1, if_neg (by rw [h2]; decide), Int.sub_zero]
theorem cu_ft (h1 : inMove (nth y.moves k) bin time = false) (h2 : outMove (nth y.moves k) bin time = true) : contUp y a bin time k - nth a.moved k = contUp y a bin time (k + 1) := by
  show _ = contHalf y a bin time k (contUp y a bin time k) - _; unfold contHalf; rw [if_neg (by rw [h1]; decide), if_pos h2, Int.add_zero]
theorem cu_ff (h1 : inMove (nth y.moves k) bin time = false) (h2 : outMove (nth y.moves k) bin time = false) : contUp y a bin time k = contUp y a bin time (k + 1) := by
  show _ = contHalf y a bin time k (contUp y a bin time k) - _; unfold contHalf; rw [if_neg (by rw [h1]; decide), if_neg (by rw [h2]; decide), Int.add_zero, Int.sub_zero]
theorem cu_bnd {B : Int} (hB : 0 ≤ B) (h1 : ∀ x ∈ a.first, -B ≤ x ∧ x ≤ B) (h2 : ∀ x ∈ a.moved, -B ≤ x ∧ x ≤ B) (hb : bin.toNat < a.first.length) : ∀ k, k ≤ a.moved.length → -(B + 2 * B * k) ≤ contUp y a bin time k ∧ contUp y a bin time k ≤ B + 2 * B * k
  | 0, _ => by have := h1 _ (nth_mem hb); show -(B + 2 * B * 0) ≤ nth a.first bin.toNat ∧ nth a.first bin.toNat ≤ _; omega
  | k + 1, hk => by
    have ih := cu_bnd hB h1 h2 hb k (by omega)
    have := h2 _ (nth_mem (show k < a.moved.length by omega))
    have e : 2 * B * ((k + 1 : Nat) : Int) = 2 * B * k + 2 * B := by rw [Int.natCast_add, Int.mul_add]; simp
    show -(B + 2 * B * ((k + 1 : Nat) : Int)) ≤ contHalf y a bin time k (contUp y a bin time k) - _ ∧ contHalf y a bin time k (contUp y a bin time k) - _ ≤ B + 2 * B * ((k + 1 : Nat) : Int)
    rw [e]
    unfold contHalf
    split <;> split <;> omega
theorem cu_sum : ∀ k, contUp y a b t k = nth a.first b + sumN (fun i => if (nth y.moves i).day < t then dayT y a.moved b i else 0) k
  | 0 => by show nth a.first ((b : Nat) : Int).toNat = _ + 0; simp
  | k + 1 => by
    show contHalf y a b t k (contUp y a b t k) - _ = nth a.first b + (sumN _ k + _)
    rw [cu_sum k]
    unfold contHalf inMove outMove dayT
    by_cases h0 : (nth y.moves k).day < (t : Int)
    · by_cases h1 : (nth y.moves k).dst = (b : Int) <;> by_cases h2 : (nth y.moves k).src = (b : Int) <;> simp [h0, h1, h2, ind] <;> omega
    · simp [h0]
theorem contI_eq : contI y a b t = contY y a b t := cu_sum _
end
end Go.Proofs.YtelbollidfdcjaaGreat

namespace Go.Proofs.YtelbollidfdcjaaGreat
open Go Go.T
def skNear (s : Sk) (n w : Int) : Span := ⟨max 0 (n - skBelow s (w + 1)), min 300 (n + skBelow (skNext s) (w + 1))⟩
def leftV (y : Yard) (a : Amts) (m : Move) : Int := if m.src = -1 then 300 else contI y a m.src (m.day + 1)
theorem near_ok {s : Sk} {n w : Int} (hn : 0 ≤ n ∧ n ≤ 300) (hw : 0 ≤ w) : (0 ≤ (skNear s n w).lo ∧ (skNear s n w).hi ≤ 300) ∧ (skNear s n w).lo ≤ n ∧ n ≤ (skNear s n w).hi := by
  have h1 := skBelow_bound s (w + 1)
  have h2 := skBelow_bound (skNext s) (w + 1)
  unfold skNear
  simp only
  omega
section
variable {y : Yard} {a : Amts} {m : Move} {n bin time : Int} {k : Nat}
def addYM (y : Yard) (m : Move) : Yard := { y with moves := y.moves ++ [m] }
def addAM (a : Amts) (n : Int) : Amts := { a with moved := a.moved ++ [n] }
theorem cu_app (hl : a.moved.length = y.moves.length) : ∀ k, k ≤ y.moves.length → contUp (addYM y m) (addAM a n) bin time k = contUp y a bin time k
  | 0, _ => rfl
  | k + 1, hk => by
    have ih := cu_app hl k (by omega)
    show contHalf (addYM y m) (addAM a n) bin time k (contUp (addYM y m) (addAM a n) bin time k) - _ = contHalf y a bin time k (contUp y a bin time k) - _
    rw [ih]
    unfold contHalf
    have e1 : nth (addYM y m).moves k = nth y.moves k := app_left (by omega)
    have e2 : nth (addAM a n).moved k = nth a.moved k := app_left (by omega)
    rw [e1, e2]
theorem cont_add (hl : a.moved.length = y.moves.length) : contI (addYM y m) (addAM a n) bin time = contI y a bin time + (if inMove m bin time = true then n else 0) - if outMove m bin time = true then n else 0 := by
  unfold contI
  have e0 : (addYM y m).moves.length = y.moves.length + 1 := by show (y.moves ++ [m]).length = _; rw [List.length_append]; rfl
  rw [e0]
  show contHalf (addYM y m) (addAM a n) bin time _ (contUp (addYM y m) (addAM a n) bin time _) - _ = _
  rw [cu_app hl _ (Nat.le_refl _)]
  unfold contHalf
  have e1 : nth (addYM y m).moves y.moves.length = m := by
    show nth (y.moves ++ [m]) (y.moves.length + 0) = m; rw [app_right]; rfl
  have e2 : nth (addAM a n).moved y.moves.length = n := by
    rw [← hl]; show nth (a.moved ++ [n]) (a.moved.length + 0) = n; rw [app_right]; rfl
  rw [e1, e2]
theorem cu_late {dd : Int} (hd : ∀ k, k < y.moves.length → (nth y.moves k).day ≤ dd) (ht : dd + 1 ≤ time) : ∀ k, k ≤ y.moves.length → contUp y a bin time k = contUp y a bin (dd + 1) k
  | 0, _ => rfl
  | k + 1, hk => by
    have ih := cu_late hd ht k (by omega)
    have h := hd k (by omega)
    show contHalf y a bin time k (contUp y a bin time k) - _ = contHalf y a bin (dd + 1) k (contUp y a bin (dd + 1) k) - _
    rw [ih]
    unfold contHalf inMove outMove
    rw [decide_eq_true (show (nth y.moves k).day < time by omega), decide_eq_true (show (nth y.moves k).day < dd + 1 by omega)]
theorem cont_bins {b : List Bin} {l : List Level} {d : Int} : contI ⟨d, b, y.moves, l⟩ a bin time = contI y a bin time := by
  unfold contI
  show contUp _ a bin time y.moves.length = _
  generalize y.moves.length = k
  induction k with
  | zero => rfl
  | succ k ih =>
    show contHalf _ a bin time k (contUp _ a bin time k) - _ = contHalf y a bin time k (contUp y a bin time k) - _
    rw [ih]; rfl
def less1 (y : Yard) (a : Amts) (m : Move) (n : Int) : Int := if m.src = -1 then n else min n (contI y a m.src m.day)
def less2 (y : Yard) (a : Amts) (m : Move) (n : Int) : Int := if m.dst = -1 then n else min n (300 - contI y a m.dst (m.day + 1))
def less3 (y : Yard) (a : Amts) (m : Move) (n : Int) : Nat → Int
  | 0 => n
  | k + 1 => if ((decide ((nth y.moves k).day = m.day) && decide ((nth y.moves k).src = m.src)) && !decide (m.src = -1)) = true then min (less3 y a m n k) (contI y a m.src m.day - nth a.moved k) else less3 y a m n k
def less4 (y : Yard) (a : Amts) (m : Move) (n : Int) : Int := max 0 (min (less3 y a m (less2 y a m (less1 y a m n)) y.moves.length) (leftV y a m))
theorem less3_le : ∀ k, less3 y a m n k ≤ n
  | 0 => Int.le_refl _
  | k + 1 => by
    have := less3_le k
    unfold less3; split <;> omega
theorem less4_ok (hn : 0 ≤ n) (h1 : m.dst ≠ -1 → contI y a m.dst (m.day + 1) ≤ 300) (h2 : m.src ≠ -1 → 0 ≤ contI y a m.src (m.day + 1)) :
    (0 ≤ less4 y a m n ∧ less4 y a m n ≤ n) ∧ (m.dst ≠ -1 → less4 y a m n ≤ 300 - contI y a m.dst (m.day + 1)) ∧ (m.src ≠ -1 → less4 y a m n ≤ contI y a m.src (m.day + 1)) := by
  have h3 := less3_le (y := y) (a := a) (m := m) (n := less2 y a m (less1 y a m n)) y.moves.length
  have h4 : less2 y a m (less1 y a m n) ≤ less1 y a m n := by unfold less2; split <;> omega
  have h5 : less1 y a m n ≤ n := by unfold less1; split <;> omega
  refine ⟨?_, fun hd => ?_, fun hs => ?_⟩
  · unfold less4; omega
  · have h6 : less2 y a m (less1 y a m n) ≤ 300 - contI y a m.dst (m.day + 1) := by unfold less2; rw [if_neg hd]; omega
    have := h1 hd
    unfold less4; omega
  · have h6 : leftV y a m = contI y a m.src (m.day + 1) := if_neg hs
    have := h2 hs
    unfold less4; rw [h6]; omega
end
structure Md where
  s : Sk
  days : Int
  bins : Int
  moves : Int
  levels : Int
structure Md.Ok (d : Md) : Prop where
  days : 1 ≤ d.days ∧ d.days ≤ 5
  bins : 1 ≤ d.bins ∧ d.bins ≤ 4
  moves : 0 ≤ d.moves ∧ d.moves ≤ 10
  levels : 0 ≤ d.levels ∧ d.levels ≤ 8
namespace Md
def D (d : Md) : Int := skAmong d.s 1 d.days
def nbI (d : Md) : Int := skAmong (skNext d.s) 1 d.bins
def nb (d : Md) : Nat := d.nbI.toNat
def bs (d : Md) : Nat → (List Int × List Bin) × Sk
  | 0 => (([], []), skNext (skNext d.s))
  | k + 1 => (((d.bs k).1.1 ++ [skBelow (d.bs k).2 60], (d.bs k).1.2 ++ [⟨300, skNear (skNext (d.bs k).2) (skBelow (d.bs k).2 60) 12⟩]), skNext (skNext (skNext (d.bs k).2)))
def first (d : Md) : List Int := (d.bs d.nb).1.1
def bins0 (d : Md) : List Bin := (d.bs d.nb).1.2
def manyI (d : Md) : Int := skBelow (d.bs d.nb).2 (d.moves + 1)
def many (d : Md) : Nat := d.manyI.toNat
def src0 (d : Md) (s : Sk) : Int := skAmong s (-1) ((d.nb : Int) - 1)
def dst0 (d : Md) (s : Sk) : Int := skAmong (skNext s) (-1) ((d.nb : Int) - 1)
def src (d : Md) (s : Sk) : Int := if d.src0 s = d.dst0 s then -1 else d.src0 s
def dst (d : Md) (s : Sk) : Int := if d.src0 s = d.dst0 s then skBelow (skNext (skNext s)) d.nb else d.dst0 s
def skM (d : Md) (s : Sk) : Sk := if d.src0 s = d.dst0 s then skNext (skNext (skNext s)) else skNext (skNext s)
def day (d : Md) (i : Nat) : Int := ((i : Int) * d.D).tdiv d.many
def mv (d : Md) (s : Sk) (i : Nat) : Move := ⟨d.day i, d.src s, d.dst s, ⟨0, 0⟩⟩
def yd (d : Md) (ms : List Move) : Yard := ⟨d.D, d.bins0, ms, []⟩
def am (d : Md) (l : List Int) : Amts := ⟨d.first, l⟩
def num (d : Md) (p : (List Move × List Int) × Sk) (i : Nat) : Int := less4 (d.yd p.1.1) (d.am p.1.2) (d.mv p.2 i) (skBelow (d.skM p.2) 40)
def full (d : Md) (p : (List Move × List Int) × Sk) (i : Nat) : Move := { d.mv p.2 i with sacks := skNear (skNext (d.skM p.2)) (d.num p i) 15 }
def ms (d : Md) : Nat → (List Move × List Int) × Sk
  | 0 => (([], []), skNext (d.bs d.nb).2)
  | i + 1 => (((d.ms i).1.1 ++ [d.full (d.ms i) i], (d.ms i).1.2 ++ [d.num (d.ms i) i]), skNext (skNext (skNext (d.skM (d.ms i).2))))
def moved (d : Md) : List Int := (d.ms d.many).1.2
def moves0 (d : Md) : List Move := (d.ms d.many).1.1
def real (d : Md) : Amts := ⟨d.first, d.moved⟩
def y0 (d : Md) : Yard := d.yd d.moves0
def most (d : Md) (b : Nat) : Nat → Int
  | 0 => 0
  | t + 1 => max (d.most b t) (contI d.y0 d.real b t)
def hs (d : Md) : Nat → List Bin × Sk
  | 0 => (d.bins0, (d.ms d.many).2)
  | k + 1 => ((d.hs k).1.set k ⟨min 300 (d.most k (d.D + 1).toNat + skBelow (d.hs k).2 30), (nth (d.hs k).1 k).first⟩, skNext (d.hs k).2)
def bins1 (d : Md) : List Bin := (d.hs d.nb).1
def nlI (d : Md) : Int := skBelow (d.hs d.nb).2 (d.levels + 1)
def nl (d : Md) : Nat := d.nlI.toNat
def lev (d : Md) (s : Sk) : Level := ⟨skBelow s (d.D + 1), skBelow (skNext s) d.nb, skNear (skNext (skNext s)) (contI d.y0 d.real (skBelow (skNext s) d.nb) (skBelow s (d.D + 1))) 8⟩
def ls (d : Md) : Nat → List Level × Sk
  | 0 => ([], skNext (d.hs d.nb).2)
  | k + 1 => ((d.ls k).1 ++ [d.lev (d.ls k).2], skNext (skNext (skNext (skNext (d.ls k).2))))
def levels1 (d : Md) : List Level := (d.ls d.nl).1
def yard (d : Md) : Yard := ⟨d.D, d.bins1, d.moves0, d.levels1⟩
def sk (d : Md) : Sk := (d.ls d.nl).2
end Md
end Go.Proofs.YtelbollidfdcjaaGreat

namespace Go.Proofs.YtelbollidfdcjaaGreat
open Go Go.T
theorem among_in {s : Sk} {lo hi : Int} (h : lo ≤ hi) : lo ≤ skAmong s lo hi ∧ skAmong s lo hi ≤ hi := by
  have := skBelow_bound s (hi - lo + 1)
  unfold skAmong; omega
theorem mem_snoc {α : Type} {l : List α} {x z : α} (h : z ∈ l ++ [x]) : z ∈ l ∨ z = x := by
  rcases List.mem_append.1 h with h | h
  · exact .inl h
  · exact .inr (List.mem_singleton.1 h)
theorem snoc_at {α : Type} [Inhabited α] {l : List α} {x : α} {k : Nat} (h : l.length = k) : nth (l ++ [x]) k = x := by
  subst h; exact (app_right (l := l) (k := [x]) (i := 0)).trans rfl
theorem div_step {i n : Nat} {D : Int} (hD : 1 ≤ D) (hi : i < n) : (0 ≤ ((i : Int) * D).tdiv n ∧ ((i : Int) * D).tdiv n < D) ∧ ∀ k : Nat, k ≤ i → ((k : Int) * D).tdiv n ≤ ((i : Int) * D).tdiv n := by
  have hn : (0 : Int) < n := by omega
  have h0 : ∀ k : Nat, 0 ≤ (k : Int) * D := fun k => Int.mul_nonneg (by omega) (by omega)
  refine ⟨?_, fun k hk => ?_⟩
  · rw [Int.tdiv_eq_ediv_of_nonneg (h0 i)]
    refine ⟨Int.ediv_nonneg (h0 i) (by omega), Int.ediv_lt_of_lt_mul hn ?_⟩
    rw [Int.mul_comm D]
    exact Int.mul_lt_mul_of_pos_right (by omega) (by omega)
  · rw [Int.tdiv_eq_ediv_of_nonneg (h0 i), Int.tdiv_eq_ediv_of_nonneg (h0 k)]
    exact Int.ediv_le_ediv hn (Int.mul_le_mul_of_nonneg_right (by omega) (by omega))
section
variable {d : Md}
theorem Md.D_in (h : d.Ok) : 1 ≤ d.D ∧ d.D ≤ 5 := by
  have := h.days
  have := among_in (s := d.s) h.days.1
  unfold Md.D; omega
theorem Md.nb_in (h : d.Ok) : (1 ≤ d.nb ∧ d.nb ≤ 4) ∧ d.nbI = (d.nb : Nat) := by
  have := h.bins
  have := among_in (s := skNext d.s) h.bins.1
  unfold Md.nb Md.nbI; omega
theorem Md.many_in (h : d.Ok) : d.many ≤ 10 ∧ d.manyI = (d.many : Nat) := by
  have := h.moves
  have := skBelow_bound (d.bs d.nb).2 (d.moves + 1)
  unfold Md.many Md.manyI; omega
theorem Md.nl_in (h : d.Ok) : d.nl ≤ 8 ∧ d.nlI = (d.nl : Nat) := by
  have := h.levels
  have := skBelow_bound (d.hs d.nb).2 (d.levels + 1)
  unfold Md.nl Md.nlI; omega
structure BsOk (d : Md) (k : Nat) (p : (List Int × List Bin) × Sk) : Prop where
  len1 : p.1.1.length = k
  len2 : p.1.2.length = k
  taken : p.2.taken = d.s.taken + 2 + 3 * k
  first : ∀ x ∈ p.1.1, 0 ≤ x ∧ x ≤ 59
  bin : ∀ b ∈ p.1.2, b.holds = 300 ∧ (0 ≤ b.first.lo ∧ b.first.hi ≤ 300) ∧ b.first.lo ≤ b.first.hi
  fit : ∀ i, i < k → (nth p.1.2 i).first.lo ≤ nth p.1.1 i ∧ nth p.1.1 i ≤ (nth p.1.2 i).first.hi
theorem Md.bs_ok (d : Md) : ∀ k, BsOk d k (d.bs k)
  | 0 => ⟨rfl, rfl, by show (skNext (skNext d.s)).taken = _; rw [skNext_taken, skNext_taken]; omega, fun x h => (by cases h), fun b h => (by cases h), fun i h => (by omega)⟩
  | k + 1 => by
    obtain ⟨h1, h2, h3, h4, h5, h6⟩ := Md.bs_ok d k
    have hb := skBelow_bound (d.bs k).2 60
    have hn := near_ok (s := skNext (d.bs k).2) (n := skBelow (d.bs k).2 60) (w := 12) (by omega) (by omega)
    refine ⟨?_, ?_, ?_, fun x hx => ?_, fun b hb => ?_, fun i hi => ?_⟩
    · show ((d.bs k).1.1 ++ [_]).length = _; rw [List.length_append, h1]; rfl
    · show ((d.bs k).1.2 ++ [_]).length = _; rw [List.length_append, h2]; rfl
    · show (skNext (skNext (skNext (d.bs k).2))).taken = _; rw [skNext_taken, skNext_taken, skNext_taken, h3]; omega
    · rcases mem_snoc hx with hx | rfl
      · exact h4 x hx
      · omega
    · rcases mem_snoc hb with hb | rfl
      · exact h5 b hb
      · exact ⟨rfl, hn.1, by have := hn.2; show (skNear _ _ _).lo ≤ (skNear _ _ _).hi; omega⟩
    · show (nth ((d.bs k).1.2 ++ [_]) i).first.lo ≤ nth ((d.bs k).1.1 ++ [_]) i ∧ nth ((d.bs k).1.1 ++ [_]) i ≤ (nth ((d.bs k).1.2 ++ [_]) i).first.hi
      by_cases e : i < k
      · rw [app_left (by omega), app_left (by omega)]; exact h6 i e
      · obtain rfl : i = k := by omega
        rw [snoc_at h1, snoc_at h2]
        exact hn.2
theorem Md.skM_taken (d : Md) (s : Sk) : s.taken + 2 ≤ (d.skM s).taken ∧ (d.skM s).taken ≤ s.taken + 3 := by
  unfold Md.skM; split <;> simp only [skNext_taken] <;> omega
theorem Md.mv_in (h : d.Ok) {s : Sk} : (-1 ≤ d.src s ∧ d.src s < d.nb) ∧ (-1 ≤ d.dst s ∧ d.dst s < d.nb) ∧ d.src s ≠ d.dst s := by
  have hn := d.nb_in h
  have h1 := among_in (s := s) (lo := -1) (hi := (d.nb : Int) - 1) (by omega)
  have h2 := among_in (s := skNext s) (lo := -1) (hi := (d.nb : Int) - 1) (by omega)
  have h3 := skBelow_bound (skNext (skNext s)) d.nb
  unfold Md.src Md.dst
  split
  · omega
  · rename_i e; unfold Md.src0 Md.dst0 at *; omega
structure MsOk (d : Md) (i : Nat) (p : (List Move × List Int) × Sk) : Prop where
  len1 : p.1.1.length = i
  len2 : p.1.2.length = i
  taken : d.s.taken + 3 + 3 * d.nb ≤ p.2.taken ∧ p.2.taken ≤ d.s.taken + 3 + 3 * d.nb + 6 * i
  day : ∀ k, k < i → (nth p.1.1 k).day = d.day k
  move : ∀ m ∈ p.1.1, (-1 ≤ m.src ∧ m.src < d.nb) ∧ (-1 ≤ m.dst ∧ m.dst < d.nb) ∧ m.src ≠ m.dst ∧ (0 ≤ m.sacks.lo ∧ m.sacks.hi ≤ 300) ∧ m.sacks.lo ≤ m.sacks.hi
  num : ∀ x ∈ p.1.2, 0 ≤ x ∧ x ≤ 39
  fit : ∀ k, k < i → (nth p.1.1 k).sacks.lo ≤ nth p.1.2 k ∧ nth p.1.2 k ≤ (nth p.1.1 k).sacks.hi
  cont : ∀ (b : Nat) (t : Int), b < d.nb → 0 ≤ contI (d.yd p.1.1) (d.am p.1.2) b t ∧ contI (d.yd p.1.1) (d.am p.1.2) b t ≤ 300
theorem toN {x : Int} {n : Nat} (h : -1 ≤ x ∧ x < n) (h1 : x ≠ -1) : ∃ k : Nat, x = k ∧ k < n := ⟨x.toNat, by omega, by omega⟩
theorem Md.num_ok (h : d.Ok) {i : Nat} {p : (List Move × List Int) × Sk} (hp : MsOk d i p) : (0 ≤ d.num p i ∧ d.num p i ≤ 39) ∧ (d.dst p.2 ≠ -1 → d.num p i ≤ 300 - contI (d.yd p.1.1) (d.am p.1.2) (d.dst p.2) (d.day i + 1)) ∧ (d.src p.2 ≠ -1 → d.num p i ≤ contI (d.yd p.1.1) (d.am p.1.2) (d.src p.2) (d.day i + 1)) := by
  have hb := skBelow_bound (d.skM p.2) 40
  obtain ⟨h1, h2, h3⟩ := d.mv_in (s := p.2) h
  have := less4_ok (y := d.yd p.1.1) (a := d.am p.1.2) (m := d.mv p.2 i) (n := skBelow (d.skM p.2) 40) (by omega)
    (fun hd => by obtain ⟨k, e, hk⟩ := toN h2 hd; show contI _ _ (d.dst p.2) _ ≤ _; rw [e]; exact (hp.cont k _ hk).2)
    (fun hd => by obtain ⟨k, e, hk⟩ := toN h1 hd; show _ ≤ contI _ _ (d.src p.2) _; rw [e]; exact (hp.cont k _ hk).1)
  exact ⟨⟨this.1.1, by have := this.1.2; unfold Md.num; omega⟩, this.2.1, this.2.2⟩
theorem Md.ms_ok (h : d.Ok) : ∀ i, i ≤ d.many → MsOk d i (d.ms i)
  | 0, _ => by
    obtain ⟨h1, h2, h3, h4, h5, h6⟩ := d.bs_ok d.nb
    refine ⟨rfl, rfl, ?_, fun k hk => (by omega), fun m hm => (by cases hm), fun x hx => (by cases hx), fun k hk => (by omega), fun b t hb => ?_⟩
    · show _ ≤ (skNext (d.bs d.nb).2).taken ∧ (skNext (d.bs d.nb).2).taken ≤ _; rw [skNext_taken, h3]; omega
    · have := h4 _ (nth_mem (show b < (d.bs d.nb).1.1.length by omega))
      show 0 ≤ nth d.first ((b : Nat) : Int).toNat ∧ nth d.first ((b : Nat) : Int).toNat ≤ 300
      rw [show ((b : Nat) : Int).toNat = b by omega]; unfold Md.first; omega
  | i + 1, hi => by
    have hp := Md.ms_ok h i (by omega)
    obtain ⟨hn, hnd, hns⟩ := d.num_ok h hp
    obtain ⟨h1, h2, h3, h4, h5, h6, h7, h8⟩ := hp
    have hD := d.D_in h
    obtain ⟨hd1, hd2⟩ := div_step (D := d.D) (i := i) (n := d.many) hD.1 (by omega)
    obtain ⟨m1, m2, m3⟩ := d.mv_in (s := (d.ms i).2) h
    have hnear := near_ok (s := skNext (d.skM (d.ms i).2)) (n := d.num (d.ms i) i) (w := 15) (by omega) (by omega)
    have hk := d.skM_taken (d.ms i).2
    refine ⟨?_, ?_, ?_, fun k hk => ?_, fun m hm => ?_, fun x hx => ?_, fun k hk => ?_, fun b t hb => ?_⟩
    · show ((d.ms i).1.1 ++ [_]).length = _; rw [List.length_append, h1]; rfl
    · show ((d.ms i).1.2 ++ [_]).length = _; rw [List.length_append, h2]; rfl
    · show _ ≤ (skNext (skNext (skNext (d.skM (d.ms i).2)))).taken ∧ (skNext (skNext (skNext (d.skM (d.ms i).2)))).taken ≤ _
      simp only [skNext_taken]; omega
    · show (nth ((d.ms i).1.1 ++ [_]) k).day = _
      by_cases e : k < i
      · rw [app_left (by omega)]; exact h4 k e
      · obtain rfl : k = i := by omega
        rw [snoc_at h1]; rfl
    · rcases mem_snoc hm with hm | rfl
      · exact h5 m hm
      · exact ⟨m1, m2, m3, hnear.1, by have := hnear.2; show (skNear _ _ _).lo ≤ (skNear _ _ _).hi; omega⟩
    · rcases mem_snoc hx with hx | rfl
      · exact h6 x hx
      · exact hn
    · show (nth ((d.ms i).1.1 ++ [_]) k).sacks.lo ≤ nth ((d.ms i).1.2 ++ [_]) k ∧ nth ((d.ms i).1.2 ++ [_]) k ≤ (nth ((d.ms i).1.1 ++ [_]) k).sacks.hi
      by_cases e : k < i
      · rw [app_left (by omega), app_left (by omega)]; exact h7 k e
      · obtain rfl : k = i := by omega
        rw [snoc_at h1, snoc_at h2]
        exact hnear.2
    · have e0 : contI (d.yd ((d.ms i).1.1 ++ [d.full (d.ms i) i])) (d.am ((d.ms i).1.2 ++ [d.num (d.ms i) i])) b t = _ := cont_add (y := d.yd (d.ms i).1.1) (a := d.am (d.ms i).1.2) (m := d.full (d.ms i) i) (n := d.num (d.ms i) i) (bin := b) (time := t) (by show (d.ms i).1.2.length = (d.ms i).1.1.length; omega)
      show 0 ≤ contI (d.yd ((d.ms i).1.1 ++ [d.full (d.ms i) i])) (d.am ((d.ms i).1.2 ++ [d.num (d.ms i) i])) b t ∧ contI (d.yd ((d.ms i).1.1 ++ [d.full (d.ms i) i])) (d.am ((d.ms i).1.2 ++ [d.num (d.ms i) i])) b t ≤ 300
      have hc := h8 b t hb
      by_cases ht : d.day i < t
      · have hl : contI (d.yd (d.ms i).1.1) (d.am (d.ms i).1.2) b t = contI (d.yd (d.ms i).1.1) (d.am (d.ms i).1.2) b (d.day i + 1) :=
          cu_late (dd := d.day i) (fun k hk => by
            have hk : k < (d.ms i).1.1.length := hk
            show (nth (d.ms i).1.1 k).day ≤ _
            rw [h4 k (by omega)]; exact hd2 k (by omega)) (by omega) _ (Nat.le_refl _)
        have e1 : inMove (d.full (d.ms i) i) b t = decide (d.dst (d.ms i).2 = (b : Int)) := by
          show (decide (d.day i < t) && _) = _; rw [decide_eq_true ht]; rfl
        have e2 : outMove (d.full (d.ms i) i) b t = decide (d.src (d.ms i).2 = (b : Int)) := by
          show (decide (d.day i < t) && _) = _; rw [decide_eq_true ht]; rfl
        rw [e0, e1, e2]
        rw [hl] at hc ⊢
        by_cases q1 : d.dst (d.ms i).2 = (b : Int) <;> by_cases q2 : d.src (d.ms i).2 = (b : Int)
        · exact absurd (q2.trans q1.symm) m3
        · rw [decide_eq_true q1, decide_eq_false q2]
          have := hnd (by omega)
          rw [q1] at this
          simp only [if_true, Bool.false_eq_true, if_false]; omega
        · rw [decide_eq_false q1, decide_eq_true q2]
          have := hns (by omega)
          rw [q2] at this
          simp only [if_true, Bool.false_eq_true, if_false]; omega
        · rw [decide_eq_false q1, decide_eq_false q2]
          simp only [Bool.false_eq_true, if_false]; omega
      · have e1 : inMove (d.full (d.ms i) i) b t = false := by show (decide (d.day i < t) && _) = _; rw [decide_eq_false ht]; rfl
        have e2 : outMove (d.full (d.ms i) i) b t = false := by show (decide (d.day i < t) && _) = _; rw [decide_eq_false ht]; rfl
        rw [e0, e1, e2]
        simp only [Bool.false_eq_true, if_false]; omega
theorem Md.most_ok (b : Nat) : ∀ k, 0 ≤ d.most b k ∧ (∀ t : Nat, t < k → contI d.y0 d.real b t ≤ d.most b k) ∧ ((∀ t : Nat, contI d.y0 d.real b t ≤ 300) → d.most b k ≤ 300)
  | 0 => ⟨Int.le_refl _, fun t h => (by omega), fun _ => (by show (0 : Int) ≤ 300; omega)⟩
  | k + 1 => by
    obtain ⟨h1, h2, h3⟩ := Md.most_ok b k
    refine ⟨?_, fun t ht => ?_, fun h => ?_⟩
    · show 0 ≤ max _ _; omega
    · show _ ≤ max _ _
      by_cases e : t < k
      · have := h2 t e; omega
      · obtain rfl : t = k := by omega
        omega
    · have := h3 h; have := h k
      show max _ _ ≤ _; omega
structure HsOk (d : Md) (k : Nat) (p : List Bin × Sk) : Prop where
  len : p.1.length = d.nb
  taken : p.2.taken = (d.ms d.many).2.taken + k
  old : ∀ i, i < d.nb → (nth p.1 i).first = (nth d.bins0 i).first
  holds : ∀ i, i < k → 0 ≤ (nth p.1 i).holds ∧ (nth p.1 i).holds ≤ 300 ∧ min 300 (d.most i (d.D + 1).toNat) ≤ (nth p.1 i).holds
theorem Md.hs_ok (d : Md) : ∀ k, k ≤ d.nb → HsOk d k (d.hs k)
  | 0, _ => ⟨(d.bs_ok d.nb).len2, by show (d.ms d.many).2.taken = _; omega, fun i _ => rfl, fun i h => (by omega)⟩
  | k + 1, hk => by
    obtain ⟨h1, h2, h3, h4⟩ := Md.hs_ok d k (by omega)
    have hb := skBelow_bound (d.hs k).2 30
    have hm := (d.most_ok k (d.D + 1).toNat).1
    refine ⟨?_, ?_, fun i hi => ?_, fun i hi => ?_⟩
    · show ((d.hs k).1.set k _).length = _; rw [List.length_set, h1]
    · show (skNext (d.hs k).2).taken = _; rw [skNext_taken, h2]; omega
    · show (nth ((d.hs k).1.set k _) i).first = _
      rw [nthA_set (by omega)]
      split
      · rename_i e; subst e; exact h3 k hi
      · exact h3 i hi
    · show 0 ≤ (nth ((d.hs k).1.set k _) i).holds ∧ (nth ((d.hs k).1.set k _) i).holds ≤ 300 ∧ _ ≤ (nth ((d.hs k).1.set k _) i).holds
      rw [nthA_set (by omega)]
      split
      · rename_i e; subst e
        show 0 ≤ min 300 (_ + _) ∧ min 300 (_ + _) ≤ 300 ∧ _ ≤ min 300 (_ + _)
        omega
      · exact h4 i (by omega)
structure LsOk (d : Md) (k : Nat) (p : List Level × Sk) : Prop where
  len : p.1.length = k
  taken : p.2.taken = (d.hs d.nb).2.taken + 1 + 4 * k
  level : ∀ l ∈ p.1, (0 ≤ l.day ∧ l.day ≤ d.D) ∧ (0 ≤ l.bin ∧ l.bin < d.nb) ∧ (0 ≤ l.sacks.lo ∧ l.sacks.hi ≤ 300) ∧ l.sacks.lo ≤ contI d.y0 d.real l.bin l.day ∧ contI d.y0 d.real l.bin l.day ≤ l.sacks.hi
theorem Md.cont_in (h : d.Ok) (b : Nat) (t : Int) (hb : b < d.nb) : 0 ≤ contI d.y0 d.real b t ∧ contI d.y0 d.real b t ≤ 300 := (d.ms_ok h d.many (Nat.le_refl _)).cont b t hb
theorem Md.ls_ok (h : d.Ok) : ∀ k, LsOk d k (d.ls k)
  | 0 => ⟨rfl, by show (skNext (d.hs d.nb).2).taken = _; rw [skNext_taken]; omega, fun l hl => (by cases hl)⟩
  | k + 1 => by
    obtain ⟨h1, h2, h3⟩ := Md.ls_ok h k
    have hD := d.D_in h
    have hn := d.nb_in h
    have b1 := skBelow_bound (d.ls k).2 (d.D + 1)
    have b2 := skBelow_bound (skNext (d.ls k).2) d.nb
    obtain ⟨b, eb, hb⟩ : ∃ b : Nat, skBelow (skNext (d.ls k).2) d.nb = b ∧ b < d.nb := ⟨(skBelow (skNext (d.ls k).2) d.nb).toNat, by omega, by omega⟩
    have hc := d.cont_in h b (skBelow (d.ls k).2 (d.D + 1)) hb
    rw [← eb] at hc
    have hnear := near_ok (s := skNext (skNext (d.ls k).2)) (w := 8) hc (by omega)
    refine ⟨?_, ?_, fun l hl => ?_⟩
    · show ((d.ls k).1 ++ [_]).length = _; rw [List.length_append, h1]; rfl
    · show (skNext (skNext (skNext (skNext (d.ls k).2)))).taken = _; simp only [skNext_taken]; omega
    · rcases mem_snoc hl with hl | rfl
      · exact h3 l hl
      · exact ⟨⟨b1.1, by show skBelow (d.ls k).2 (d.D + 1) ≤ d.D; omega⟩, ⟨b2.1, by show skBelow (skNext (d.ls k).2) d.nb < d.nb; omega⟩, hnear.1, hnear.2⟩
theorem Md.cont_yard (b t : Int) : contI d.yard d.real b t = contI d.y0 d.real b t := cont_bins (y := d.y0)
theorem Md.lens (h : d.Ok) : (d.yard.bins.length = d.nb ∧ d.yard.moves.length = d.many) ∧ d.yard.levels.length = d.nl ∧ d.real.first.length = d.nb ∧ d.real.moved.length = d.many :=
  ⟨⟨(d.hs_ok d.nb (Nat.le_refl _)).len, (d.ms_ok h d.many (Nat.le_refl _)).len1⟩, (d.ls_ok h d.nl).len, (d.bs_ok d.nb).len1, (d.ms_ok h d.many (Nat.le_refl _)).len2⟩
theorem Md.right (h : d.Ok) : d.yard.Right := by
  obtain ⟨⟨l1, l2⟩, l3, l4, l5⟩ := d.lens h
  have hD := d.D_in h
  have hn := d.nb_in h
  have hm := d.many_in h
  have hl := d.nl_in h
  have H := d.hs_ok d.nb (Nat.le_refl _)
  have B := d.bs_ok d.nb
  have M := d.ms_ok h d.many (Nat.le_refl _)
  have L := d.ls_ok h d.nl
  refine ⟨hD, by omega, by omega, by omega, fun b hb => ?_, fun m hm' => ?_, fun l hl' => ?_⟩
  · obtain ⟨i, hi, rfl⟩ := mem_nth hb
    rw [l1] at hi
    have h1 := H.holds i hi
    have h2 := H.old i hi
    have h3 := B.bin _ (nth_mem (show i < d.bins0.length by have := B.len2; unfold Md.bins0; omega))
    have e : (nth d.yard.bins i).first = (nth d.bins0 i).first := h2
    rw [e]
    exact ⟨⟨h1.1, h1.2.1⟩, h3.2.1, h3.2.2⟩
  · obtain ⟨i, hi, rfl⟩ := mem_nth hm'
    have h1 := M.move _ hm'
    have h2 : (nth d.yard.moves i).day = d.day i := M.day i (by rw [l2] at hi; exact hi)
    have h3 := (div_step (D := d.D) (i := i) (n := d.many) hD.1 (by rw [l2] at hi; exact hi)).1
    have e : (d.yard.bins.length : Int) = d.nb := by rw [l1]
    rw [h2, e]
    exact ⟨h3, h1.1, h1.2.1, h1.2.2.1, h1.2.2.2.1, h1.2.2.2.2⟩
  · have h1 := L.level _ hl'
    have e : (d.yard.bins.length : Int) = d.nb := by rw [l1]
    rw [e]
    exact ⟨h1.1, h1.2.1, h1.2.2.1, by omega⟩
theorem Md.fits (h : d.Ok) (c : Nat → Bool) : FitsC d.yard c d.real := by
  obtain ⟨⟨l1, l2⟩, l3, l4, l5⟩ := d.lens h
  have hD := d.D_in h
  have H := d.hs_ok d.nb (Nat.le_refl _)
  have B := d.bs_ok d.nb
  have M := d.ms_ok h d.many (Nat.le_refl _)
  have L := d.ls_ok h d.nl
  refine ⟨⟨by omega, by omega⟩, fun b hb => ?_, fun b t hb ht => ?_, fun i hi => ?_, fun i hi _ => ?_⟩
  · rw [l1] at hb
    have e : (nth d.yard.bins b).first = (nth d.bins0 b).first := H.old b hb
    rw [e]; exact B.fit b hb
  · rw [l1] at hb
    rw [← contI_eq, d.cont_yard]
    have h1 := d.cont_in h b t hb
    have h2 := H.holds b hb
    have h3 := (d.most_ok b (d.D + 1).toNat).2.1 t (by have : t ≤ d.D.toNat := ht; omega)
    refine ⟨h1.1, ?_⟩
    show _ ≤ (nth (d.hs d.nb).1 b).holds
    omega
  · rw [l2] at hi; exact M.fit i hi
  · obtain ⟨h1, h2, _, h3⟩ := L.level _ (nth_mem hi)
    rw [← contI_eq, d.cont_yard]
    rw [show (((nth d.yard.levels i).bin.toNat : Nat) : Int) = (nth d.yard.levels i).bin by have : 0 ≤ (nth d.yard.levels i).bin := h2.1; omega,
      show (((nth d.yard.levels i).day.toNat : Nat) : Int) = (nth d.yard.levels i).day by have : 0 ≤ (nth d.yard.levels i).day := h1.1; omega]
    exact h3
end
theorem right_chk {y : Yard} (h : y.Right) : checkY y = 0 := by
  have a1 : manyY y = false := by
    have h1 := h.days; have h2 := h.bins; have h3 := h.moves; have h4 := h.levels
    simp only [manyY, Bool.or_eq_false_iff, Bool.not_eq_false', inB_true, decide_eq_false_iff_not]
    omega
  have al : ∀ {s : Span}, (0 ≤ s.lo ∧ s.hi ≤ 300) ∧ s.lo ≤ s.hi → allowedB s = true := fun {s} h => by
    unfold allowedB; rw [Bool.and_eq_true, inB_true, inB_true]; omega
  have all : ∀ {α : Type} {l : List α} {p : α → Bool}, (∀ x ∈ l, p x = true) → (!l.all p) = false := fun h => by rw [Bool.not_eq_false', List.all_eq_true]; exact h
  have a2 : rangeY y = false := all fun b hb => by
    obtain ⟨h1, h2, h3⟩ := h.bin b hb
    rw [Bool.and_eq_true, inB_true, al ⟨h2, h3⟩]; exact ⟨by omega, rfl⟩
  have a3 : range2Y y = false := by
    unfold range2Y
    rw [all fun m hm => al ⟨(h.move m hm).2.2.2.2.1, (h.move m hm).2.2.2.2.2⟩, all fun l hl => al ⟨(h.level l hl).2.2.1, (h.level l hl).2.2.2⟩]; rfl
  have fin : ∀ {n : Int}, -1 ≤ n ∧ n < y.bins.length → y.fin n = true := fun {n} h => by
    unfold Yard.fin Yard.bin; rw [Bool.or_eq_true, decide_eq_true_eq, inB_true]; omega
  have a4 : notY y = false := all fun m hm => by
    obtain ⟨h1, h2, h3, _⟩ := h.move m hm
    rw [Bool.and_eq_true, Bool.and_eq_true, inB_true, fin h2, fin h3]; exact ⟨⟨by omega, rfl⟩, rfl⟩
  have a5 : not2Y y = false := all fun l hl => by
    obtain ⟨h1, h2, _⟩ := h.level l hl
    unfold Yard.time Yard.bin; rw [Bool.and_eq_true, inB_true, inB_true]; omega
  have a6 : twiceY y = false := all fun m hm => by
    rw [Bool.not_eq_true', decide_eq_false_iff_not]; exact (h.move m hm).2.2.2.1
  have a7 : orderY y = false := by
    unfold orderY
    rw [all (p := fun b : Bin => risingB b.first) fun b hb => decide_eq_true (h.bin b hb).2.2, all (p := fun m : Move => risingB m.sacks) fun m hm => decide_eq_true (h.move m hm).2.2.2.2.2, all (p := fun l : Level => risingB l.sacks) fun l hl => decide_eq_true (h.level l hl).2.2.2]; rfl
  unfold checkY
  rw [a1, a2, a3, a4, a5, a6, a7]; rfl
end Go.Proofs.YtelbollidfdcjaaGreat

namespace Go.Proofs.YtelbollidfdcjaaGreat
open Go Go.T
set_option maxHeartbeats 4000000
def insB (n : Int) (s : Span) : Bool := decide (s.lo ≤ n) && decide (n ≤ s.hi)
structure AmS (y : Yard) (a : Amts) : Prop where
  len : y.moves.length ≤ a.moved.length
  few : a.moved.length ≤ 1000
  first : ∀ x ∈ a.first, -1000 ≤ x ∧ x ≤ 1000
  moved : ∀ x ∈ a.moved, -1000 ≤ x ∧ x ≤ 1000
theorem AmS.up {y : Yard} {a : Amts} (h : AmS y a) {bin time : Int} (hb : bin.toNat < a.first.length) {k : Nat} (hk : k ≤ y.moves.length) : -3000000 ≤ contUp y a bin time k ∧ contUp y a bin time k ≤ 3000000 := by
  have h1 := h.len
  have h2 := h.few
  have := cu_bnd (y := y) (bin := bin) (time := time) (B := 1000) (by omega) h.first h.moved hb k (by omega)
  omega
attribute [local irreducible] dInt dBool dSl dPp dPtr dAgg dTup dClo dAny dEx dStr dGd dCells dVec dVs dRow dOp nth Tri Into TOps Ctr bodyPost Exit.then Exit.inBlock Code.wp Code.wpIn dWhen dPa dPe dAo dArr dMp dPm dMap dCJ CtrG CtrI OpY keepPost iterPost bodyPostM roundQ
set_option maxRecDepth 100000 in
theorem c_contents (y : Yard) (a : Amts) (ha : AmS y a) (bin time : Int) (h0 : 0 ≤ bin) (h1 : bin.toNat < a.first.length) : Ctr Tryz.prog 25 [yardT y, amtsT a, Ty.int .i64 bin, Ty.int .i64 time] (Ty.int .i64 (contI y a bin time)) := by
  refine fn_intro Tryz.func25 rfl (by decide) Tryz.ntmps25 (by exact Nat.le_of_ble_eq_true rfl) fun w0 M0 => ?_
  have hl1 := ha.len
  have hl2 := ha.few
  refine t_seq ?_
  refine t_region ?_
  refine r_box_agg rfl ?_
  refine r_box_agg rfl ?_
  refine asI rfl ?_
  refine r_nil ?_
  refine i_then ?_
  refine t_seq ?_
  refine t_region ?_
  refine r_field_pp rfl rfl rfl rfl rfl (by decide) ?_
  refine r_load_pp rfl rfl rfl rfl ?_
  refine mvI rfl ?_
  refine r_index_sl rfl rfl rfl rfl rfl rfl h0 h1 ?_
  refine r_load_pp rfl rfl rfl rfl ?_
  refine asI rfl ?_
  refine r_nil ?_
  refine i_then ?_
  refine t_seq ?_
  refine t_seq ?_
  refine t_region ?_
  refine r_field_pp rfl rfl rfl rfl rfl (by decide) ?_
  refine r_load_pp rfl rfl rfl rfl ?_
  refine r_len rfl rfl rfl ?_
  refine mvI rfl ?_
  refine r_nil ?_
  refine i_then ?_
  refine t_block ?_
  refine t_loop (fun (k : {k : Nat // k ≤ y.moves.length}) => live [(2, Ty.int .i64 bin), (3, Ty.int .i64 time), (4, Ty.pp (yardTys y)), (5, Ty.pp (amtsTys a)), (9, Ty.int .i64 (contUp y a bin time k.1)), (18, Ty.sl MoveE y.moves), (19, Ty.int .i64 y.moves.length), (20, Ty.int .i64 (k.1 : Nat))] []) (fun k => y.moves.length - k.1) (⟨0, by omega⟩) ?_ fun k => ?_
  · (refine Ent.mk' ?_ ?_ <;> (repeat' (first | exact allSub_zero | exact allTags_nil | refine allSub_succ' ?_ (Ty.sub_any _) | refine allSub_succ' ?_ (Ty.sub_refl _))))
  ·
    have hk := k.2
    have hu := ha.up (time := time) h1 hk
    refine t_seq ?_
    refine t_region ?_
    refine r_bin rfl rfl rfl ?_
    refine r_nil ?_
    refine i_then ?_
    refine t_seq ?_
    refine t_cond_dec rfl (fun hc1 => ?_) (fun hc1 => ?_)
    ·
      refine t_skip ?_
      refine i_then ?_
      refine t_seq ?_
      refine t_block ?_
      refine t_seq ?_
      refine t_region ?_
      refine mvI rfl ?_
      refine r_index_slN rfl rfl rfl rfl rfl rfl (by omega) ?_
      refine r_load_ppN rfl rfl rfl (by exact Nat.le_of_ble_eq_true rfl) ?_
      refine r_alloc rfl (by exact List.cons_ne_nil _ _) rfl ?_
      refine asI rfl ?_
      refine r_storeN rfl rfl (by decide) rfl rfl rfl rfl rfl rfl ?_
      refine r_nil ?_
      refine i_then ?_
      refine t_seq ?_
      refine t_seq ?_
      refine t_region ?_
      refine r_field_ptr rfl rfl rfl rfl rfl (by decide) ?_
      refine r_load_ptr rfl rfl (by decide) rfl rfl rfl ?_
      refine mvI rfl ?_
      refine r_bin rfl rfl rfl ?_
      refine mvB rfl ?_
      apply r_guard (s := 29) rfl rfl rfl
      · intro hg; apply opT_of; (refine r_field_ptr rfl rfl rfl rfl rfl (by decide) ?_); refine r_nil ?_; exact rfl
      · exact rfl
      · exact rfl
      apply r_guard (s := 29) rfl rfl rfl
      · intro hg; apply opT_strip (s := 30) rfl (by (rw [hg]; rfl)); apply opT_of; (refine r_load_ptr rfl rfl (by decide) rfl rfl rfl ?_); refine r_nil ?_; exact rfl
      · exact rfl
      · exact rfl
      apply r_guard (s := 29) rfl rfl rfl
      · intro hg; apply opT_of; (refine mvI rfl ?_); refine r_nil ?_; exact rfl
      · exact rfl
      · exact rfl
      apply r_guard (s := 29) rfl rfl rfl
      · intro hg; apply opT_strip (s := 31) rfl (by (rw [hg]; rfl)); apply opT_strip (s := 32) rfl (by (rw [hg]; rfl)); apply opT_of; (refine r_bin rfl rfl rfl ?_); refine r_nil ?_; exact rfl
      · exact rfl
      · exact rfl
      refine r_and rfl rfl ?_
      refine r_nil ?_
      refine i_then ?_
      refine t_cond rfl (fun hc2 => ?_) (fun hc2 => ?_)
      ·
        have hm1 := ha.moved _ (nth_mem (show k.1 < a.moved.length by omega))
        refine t_region ?_
        refine mvI rfl ?_
        refine r_field_pp rfl rfl rfl rfl rfl (by decide) ?_
        refine r_load_pp rfl rfl rfl rfl ?_
        refine mvI rfl ?_
        refine r_index_slN rfl rfl rfl rfl rfl rfl (by omega) ?_
        refine r_load_pp rfl rfl rfl rfl ?_
        refine r_add rfl rfl (by omega) (by omega) ?_
        refine asI rfl ?_
        refine r_nil ?_
        refine i_then ?_
        refine t_seq ?_
        refine t_region ?_
        refine r_field_ptr rfl rfl rfl rfl rfl (by decide) ?_
        refine r_load_ptr rfl rfl (by decide) rfl rfl rfl ?_
        refine mvI rfl ?_
        refine r_bin rfl rfl rfl ?_
        refine mvB rfl ?_
        apply r_guard (s := 46) rfl rfl rfl
        · intro hg; apply opT_of; (refine r_field_ptr rfl rfl rfl rfl rfl (by decide) ?_); refine r_nil ?_; exact rfl
        · exact rfl
        · exact rfl
        apply r_guard (s := 46) rfl rfl rfl
        · intro hg; apply opT_strip (s := 47) rfl (by (rw [hg]; rfl)); apply opT_of; (refine r_load_ptr rfl rfl (by decide) rfl rfl rfl ?_); refine r_nil ?_; exact rfl
        · exact rfl
        · exact rfl
        apply r_guard (s := 46) rfl rfl rfl
        · intro hg; apply opT_of; (refine mvI rfl ?_); refine r_nil ?_; exact rfl
        · exact rfl
        · exact rfl
        apply r_guard (s := 46) rfl rfl rfl
        · intro hg; apply opT_strip (s := 48) rfl (by (rw [hg]; rfl)); apply opT_strip (s := 49) rfl (by (rw [hg]; rfl)); apply opT_of; (refine r_bin rfl rfl rfl ?_); refine r_nil ?_; exact rfl
        · exact rfl
        · exact rfl
        refine r_and rfl rfl ?_
        refine r_nil ?_
        refine i_then ?_
        refine t_cond rfl (fun hc3 => ?_) (fun hc3 => ?_)
        ·
          have hm2 := ha.moved _ (nth_mem (show k.1 < a.moved.length by omega))
          refine t_region ?_
          refine mvI rfl ?_
          refine r_field_pp rfl rfl rfl rfl rfl (by decide) ?_
          refine r_load_pp rfl rfl rfl rfl ?_
          refine mvI rfl ?_
          refine r_index_slN rfl rfl rfl rfl rfl rfl (by omega) ?_
          refine r_load_pp rfl rfl rfl rfl ?_
          refine r_sub rfl rfl (by omega) (by omega) ?_
          refine asI rfl ?_
          refine r_nil ?_
          refine i_block ?_
          refine i_then ?_
          refine t_region ?_
          refine r_add rfl rfl (by omega) (by omega) ?_
          refine mvI rfl ?_
          refine r_nil ?_
          refine i_round (⟨k.1 + 1, by omega⟩) ?_ (by show y.moves.length - (k.1 + 1) < y.moves.length - k.1; omega)
          (refine Ent.mk' ?_ ?_ <;> (repeat' (first | exact allSub_zero | exact allTags_nil | refine allSub_succ' ?_ (Ty.sub_any _) | refine allSub_succ' ?_ (Ty.sub_refl _) | refine allSub_succ' ?_ ?_)))
          all_goals skip
          all_goals exact Ty.sub_int (cu_tt hc2 hc3)
        ·
          refine t_skip ?_
          refine i_block ?_
          refine i_then ?_
          refine t_region ?_
          refine r_add rfl rfl (by omega) (by omega) ?_
          refine mvI rfl ?_
          refine r_nil ?_
          refine i_round (⟨k.1 + 1, by omega⟩) ?_ (by show y.moves.length - (k.1 + 1) < y.moves.length - k.1; omega)
          (refine Ent.mk' ?_ ?_ <;> (repeat' (first | exact allSub_zero | exact allTags_nil | refine allSub_succ' ?_ (Ty.sub_any _) | refine allSub_succ' ?_ (Ty.sub_refl _) | refine allSub_succ' ?_ ?_)))
          all_goals skip
          all_goals exact Ty.sub_int (cu_tf hc2 hc3)
      ·
        refine t_skip ?_
        refine i_then ?_
        refine t_seq ?_
        refine t_region ?_
        refine r_field_ptr rfl rfl rfl rfl rfl (by decide) ?_
        refine r_load_ptr rfl rfl (by decide) rfl rfl rfl ?_
        refine mvI rfl ?_
        refine r_bin rfl rfl rfl ?_
        refine mvB rfl ?_
        apply r_guard (s := 46) rfl rfl rfl
        · intro hg; apply opT_of; (refine r_field_ptr rfl rfl rfl rfl rfl (by decide) ?_); refine r_nil ?_; exact rfl
        · exact rfl
        · exact rfl
        apply r_guard (s := 46) rfl rfl rfl
        · intro hg; apply opT_strip (s := 47) rfl (by (rw [hg]; rfl)); apply opT_of; (refine r_load_ptr rfl rfl (by decide) rfl rfl rfl ?_); refine r_nil ?_; exact rfl
        · exact rfl
        · exact rfl
        apply r_guard (s := 46) rfl rfl rfl
        · intro hg; apply opT_of; (refine mvI rfl ?_); refine r_nil ?_; exact rfl
        · exact rfl
        · exact rfl
        apply r_guard (s := 46) rfl rfl rfl
        · intro hg; apply opT_strip (s := 48) rfl (by (rw [hg]; rfl)); apply opT_strip (s := 49) rfl (by (rw [hg]; rfl)); apply opT_of; (refine r_bin rfl rfl rfl ?_); refine r_nil ?_; exact rfl
        · exact rfl
        · exact rfl
        refine r_and rfl rfl ?_
        refine r_nil ?_
        refine i_then ?_
        refine t_cond rfl (fun hc4 => ?_) (fun hc4 => ?_)
        ·
          have hm2 := ha.moved _ (nth_mem (show k.1 < a.moved.length by omega))
          refine t_region ?_
          refine mvI rfl ?_
          refine r_field_pp rfl rfl rfl rfl rfl (by decide) ?_
          refine r_load_pp rfl rfl rfl rfl ?_
          refine mvI rfl ?_
          refine r_index_slN rfl rfl rfl rfl rfl rfl (by omega) ?_
          refine r_load_pp rfl rfl rfl rfl ?_
          refine r_sub rfl rfl (by omega) (by omega) ?_
          refine asI rfl ?_
          refine r_nil ?_
          refine i_block ?_
          refine i_then ?_
          refine t_region ?_
          refine r_add rfl rfl (by omega) (by omega) ?_
          refine mvI rfl ?_
          refine r_nil ?_
          refine i_round (⟨k.1 + 1, by omega⟩) ?_ (by show y.moves.length - (k.1 + 1) < y.moves.length - k.1; omega)
          (refine Ent.mk' ?_ ?_ <;> (repeat' (first | exact allSub_zero | exact allTags_nil | refine allSub_succ' ?_ (Ty.sub_any _) | refine allSub_succ' ?_ (Ty.sub_refl _) | refine allSub_succ' ?_ ?_)))
          all_goals skip
          all_goals exact Ty.sub_int (cu_ft hc2 hc4)
        ·
          refine t_skip ?_
          refine i_block ?_
          refine i_then ?_
          refine t_region ?_
          refine r_add rfl rfl (by omega) (by omega) ?_
          refine mvI rfl ?_
          refine r_nil ?_
          refine i_round (⟨k.1 + 1, by omega⟩) ?_ (by show y.moves.length - (k.1 + 1) < y.moves.length - k.1; omega)
          (refine Ent.mk' ?_ ?_ <;> (repeat' (first | exact allSub_zero | exact allTags_nil | refine allSub_succ' ?_ (Ty.sub_any _) | refine allSub_succ' ?_ (Ty.sub_refl _) | refine allSub_succ' ?_ ?_)))
          all_goals skip
          all_goals exact Ty.sub_int (cu_ff hc2 hc4)
    ·
      refine t_exit ?_
      refine i_then_exit ?_
      refine i_then_exit ?_
      refine i_block_exit rfl ?_
      refine i_then ?_
      refine t_seq ?_
      refine t_region ?_
      refine mvI rfl ?_
      refine asI rfl ?_
      refine r_nil ?_
      refine i_then ?_
      refine t_ret ?_
      refine i_rp1 rfl rfl ?_
      all_goals skip
      all_goals exact ret_eq rfl rfl (congrArg (Ty.int .i64) (by unfold contI; rw [show k.1 = y.moves.length by have := k.2; omega]))
set_option maxRecDepth 100000 in
theorem c_near (s : Sk) (h : s.Ok 2) (n w : Int) (hn : -1000000 ≤ n ∧ n ≤ 1000000) (hw : 0 ≤ w ∧ w ≤ 1000) : CtrG Tryz.prog 82 [1000] [(1000, Cont.cells 149 (skTys s))] [Ty.ptr 1000 0, Ty.int .i64 n, Ty.int .i64 w] [(1000, Cont.cells 149 (skTys (skNext (skNext s))))] (Ty.agg (SpanE.tys (skNear s n w))) := by
  refine fnG_intro Tryz.func82 rfl (by decide) Tryz.ntmps82 (by exact Nat.le_of_ble_eq_true rfl) fun w0 M0 => ?_
  have h0 : 0 ≤ s.taken ∧ s.taken + 2 ≤ 4611686018427387904 := h
  have hb1 := skBelow_bound s (w + 1)
  have hb2 := skBelow_bound (skNext s) (w + 1)
  have ht := skNext_taken s
  refine t_seq ?_
  refine t_region ?_
  refine r_alloc rfl (by exact List.cons_ne_nil _ _) rfl ?_
  refine r_nil ?_
  refine i_then ?_
  refine t_seq ?_
  refine t_region ?_
  refine mvI rfl ?_
  refine mvO rfl ?_
  refine mvI rfl ?_
  refine r_add rfl rfl (by omega) (by omega) ?_
  refine r_callG [(1000, 1000)] [] [(1000, Cont.cells 149 (skTys (skNext s)))] (c_Below s ⟨by omega, by omega⟩ _) rfl rfl (by repeat (first | exact cv_nil | refine cv_cons ?_ ?_ | exact cv_ptr List.mem_cons_self | exact cv_pub rfl rfl)) (pre_cons (a := 1000) (b := 1000) (by exact List.mem_cons_self) rfl (cc_cells_eq (by exact List.mem_cons_self) rfl rfl rfl) pre_nil) (post_cons (a := 1000) (b := 1000) (by exact List.mem_cons_self) rfl (cc_cells_eq (by exact List.mem_cons_self) rfl rfl rfl) post_nil) (cv_pub rfl rfl) ?_
  refine r_sub rfl rfl (by omega) (by omega) ?_
  refine r_max rfl rfl ?_
  refine mvI rfl ?_
  refine mvO rfl ?_
  refine mvI rfl ?_
  refine r_add rfl rfl (by omega) (by omega) ?_
  refine r_callG [(1000, 1000)] [] [(1000, Cont.cells 149 (skTys (skNext (skNext s))))] (c_Below (skNext s) ⟨by omega, by omega⟩ _) rfl rfl (by repeat (first | exact cv_nil | refine cv_cons ?_ ?_ | exact cv_ptr List.mem_cons_self | exact cv_pub rfl rfl)) (pre_cons (a := 1000) (b := 1000) (by exact List.mem_cons_self) rfl (cc_cells_eq (by exact List.mem_cons_self) rfl rfl rfl) pre_nil) (post_cons (a := 1000) (b := 1000) (by exact List.mem_cons_self) rfl (cc_cells_eq (by exact List.mem_cons_self) rfl rfl rfl) post_nil) (cv_pub rfl rfl) ?_
  refine r_add rfl rfl (by omega) (by omega) ?_
  refine r_min rfl rfl ?_
  refine r_call (c_span _ _) rfl rfl rfl rfl rfl ?_
  refine r_storeN rfl rfl (by decide) rfl rfl rfl rfl rfl rfl ?_
  refine r_nil ?_
  refine i_then ?_
  refine t_ret ?_
  refine g_rcell [1000] rfl rfl rfl rfl (by decide) rfl rfl rfl (by decide) (by repeat (first | exact rc_nil | refine rc_cons rfl (cc_cells_eq (by decide) rfl rfl rfl) ?_)) ?_
  all_goals exact rg_cv (cv_pub rfl rfl)
  all_goals trace_state
set_option maxRecDepth 100000 in
theorem c_leftL (y : Yard) (a : Amts) (ha : AmS y a) (m : Move) (hd : -1000000 ≤ m.day ∧ m.day ≤ 1000000) (h1 : m.src ≠ -1 → 0 ≤ m.src ∧ m.src.toNat < a.first.length) : Ctr Tryz.prog 83 [yardT y, amtsT a, Ty.agg (MoveE.tys m)] (Ty.int .i64 (leftV y a m)) := by
  refine fn_intro Tryz.func83 rfl (by decide) Tryz.ntmps83 (by exact Nat.le_of_ble_eq_true rfl) fun w0 M0 => ?_
  refine t_seq ?_
  refine t_region ?_
  refine r_box_agg rfl ?_
  refine r_box_agg rfl ?_
  refine r_box_agg rfl ?_
  refine asI rfl ?_
  refine r_nil ?_
  refine i_then ?_
  refine t_seq ?_
  refine t_seq ?_
  refine t_region ?_
  refine r_field_pp rfl rfl rfl rfl rfl (by decide) ?_
  refine r_load_pp rfl rfl rfl rfl ?_
  refine r_bin rfl rfl rfl ?_
  refine r_nil ?_
  refine i_then ?_
  refine t_cond_dec rfl (fun hc1 => ?_) (fun hc1 => ?_)
  ·
    refine t_seq ?_
    refine t_region ?_
    refine asI rfl ?_
    refine r_nil ?_
    refine i_then ?_
    refine t_ret ?_
    refine i_then_ret ?_
    refine i_rp1 rfl rfl ?_
    all_goals skip
    exact ret_eq rfl rfl (congrArg (Ty.int .i64) (if_pos hc1).symm)
  ·
    refine t_skip ?_
    refine i_then ?_
    refine t_seq ?_
    have hs := h1 hc1
    refine t_region ?_
    refine r_load_ppN rfl rfl rfl (by exact Nat.le_of_ble_eq_true rfl) ?_
    refine r_load_ppN rfl rfl rfl (by exact Nat.le_of_ble_eq_true rfl) ?_
    refine r_field_pp rfl rfl rfl rfl rfl (by decide) ?_
    refine r_load_pp rfl rfl rfl rfl ?_
    refine r_field_pp rfl rfl rfl rfl rfl (by decide) ?_
    refine r_load_pp rfl rfl rfl rfl ?_
    refine r_add rfl rfl (by omega) (by omega) ?_
    refine r_call (c_contents y a ha m.src (m.day + 1) hs.1 hs.2) rfl rfl rfl rfl rfl ?_
    refine asI rfl ?_
    refine r_nil ?_
    refine i_then ?_
    refine t_ret ?_
    refine i_rp1 rfl rfl ?_
    all_goals skip
    exact ret_eq rfl rfl (congrArg (Ty.int .i64) (if_neg hc1).symm)
end Go.Proofs.YtelbollidfdcjaaGreat

namespace Go.T
open Go Go.RowKit
section
variable {P : Program} {fr : Fr} {ops : Array Oper} {A : As} {rest : List Oper} {K : As → List (As × Fx) → Prop} {d : Nat} {t ty' : TypeId} {p : String} {e : Array Edge} [T : Tab P]
end
end Go.T

namespace Go.T
open Go Go.RowKit
section
variable {P : Program} {fr : Fr} {ops : Array Oper} {A : As} {rest : List Oper} {K : As → List (As × Fx) → Prop} {d : Nat} {t ty' : TypeId} {p : String} {e : Array Edge} [T : Tab P]
end
end Go.T

namespace Go.T
open Go Go.RowKit
def Cont.ky {α : Type} (b : Bool) (E : El α) (T : Nat) (xs : List α) : Cont :=
  { den := fun w M t => b = true → (Cont.vec E T xs).den w M t, mono := fun le _ _ hs hk h hb => (Cont.vec E T xs).mono le (fun _ h => by cases h) (fun _ h => by cases h) hs hk (h hb) }
section
variable {P : Program} {fr : Fr} {A : As} {Q : Exit → Act → World → Prop} {c : Code}
end
section
variable {P : Program} {fr : Fr} {ops : Array Oper} {A : As} {rest : List Oper} {K : As → List (As × Fx) → Prop} {d : Nat} {t ty' : TypeId} {p : String} {e : Array Edge} [T : Tab P]
end
end Go.T

namespace Go.T
open Go Go.RowKit
section
variable {P : Program} {A : As} {fn : Func} {n : Nat} {w0 : World} {M0 : Tags} {F : List Nat} {post : List (Nat × Cont)} [T : Tab P]
theorem load_cell {w : World} {M : Tags} {tm ty tg Tb : Nat} {l : List Ty} {ti : TI} {tmps : Array Value} (wf : Wf w M) (htg : ∀ x ∈ A.tags, x.2.den w M x.1) (hd : (A.slots tm).den w M (tmps.getD tm undef)) (hx : A.slots tm = .ptr tg 0) (hc : A.tag tg = some (.cells Tb l)) (h1 : Tag1 tg) (hT : T.tab[ty]? = some ti) (ha : ti.k.agg = true) (hl : l.length = ti.size) :
    ∃ b cs, tmps.getD tm undef = .pointer (some ⟨b, 0, none⟩) ∧ (loadVar ty ⟨b, 0, none⟩).run P w = .ok (.agg cs) w ∧ dens w M l cs.toList := by
  rw [hx] at hd
  obtain ⟨b, hb, e⟩ := hd
  obtain ⟨b', cs, hb', hh, hds⟩ := htg _ (tag_mem hc)
  obtain ⟨u, rfl⟩ : ∃ u, tg = u + 1 := ⟨tg - 1, by omega⟩
  have := wf.inj b b' u (by omega) hb hb'
  subst this
  have hlen := dens_len hds
  have hload := run_loadN (P := P) hT ha (w := w) (b := b) (off := 0) (cs := cs.toList) (by rw [hlen, hl]) (fun j v hj => by simpa [World.cell?, hh] using hj)
  exact ⟨b, cs, e, by simpa [Instr.loadAt, Instr.sureAddr] using hload, hds⟩
theorem g_rcc2 (L : List Nat) {tm ty tg Tb tm' ty' tg' Tb' : Nat} {l l' : List Ty} {ti ti' : TI} {r1 r2 : Ty} (hr : fn.results = #[.cell tm ty, .cell tm' ty']) (ht : Nat.blt tm n = true) (ht' : Nat.blt tm' n = true) (hx : A.slots tm = .ptr tg 0) (hc : A.tag tg = some (.cells Tb l)) (h1 : Tag1 tg) (hT : T.tab[ty]? = some ti) (ha : ti.k.agg = true) (hl : l.length = ti.size)
    (hx' : A.slots tm' = .ptr tg' 0) (hc' : A.tag tg' = some (.cells Tb' l')) (h1' : Tag1 tg') (hT' : T.tab[ty']? = some ti') (ha' : ti'.k.agg = true) (hl' : l'.length = ti'.size)
    (hL : ∀ t ∈ F, t ∈ L) (hp : RetCs A L post) (hs : RetG L (.agg l) r1) (hs2 : RetG L (.agg l') r2) :
    Into ⟨n, w0, M0, F, .plain⟩ A (bodyPost P fn (keepPost F post w0 M0 (Ty.tup [r1, r2])) .ret) := by
  intro a w ⟨M, ok, hsl, htg⟩
  obtain ⟨b, cs, e, hload, hds⟩ := load_cell ok.wf htg (hsl tm (by simpa using ht)) hx hc h1 hT ha hl
  obtain ⟨b2, cs2, e2, hload2, hds2⟩ := load_cell ok.wf htg (hsl tm' (by simpa using ht')) hx' hc' h1' hT' ha' hl'
  refine ⟨ok.nodefers (by simp), .tuple #[.agg cs, .agg cs2], ?_, _, pubG L M, rfl, pubG_wf ok.wf, base_pubG hL ok.base, ⟨_, rfl, hs _ _ _ ok.wf ⟨cs, rfl, hds⟩, hs2 _ _ _ ok.wf ⟨cs2, rfl, hds2⟩, trivial⟩, rc_get ok.wf htg hp⟩
  have e' : a.tmps[tm]?.getD undef = .pointer (some ⟨b, 0, none⟩) := by rw [← Array.getD_eq_getD_getElem?]; exact e
  have e2' : a.tmps[tm']?.getD undef = .pointer (some ⟨b2, 0, none⟩) := by rw [← Array.getD_eq_getD_getElem?]; exact e2
  simp [results, hr, e', e2', asAddr, hload, hload2]
end
end Go.T

namespace Go.T
open Go Go.RowKit
section
variable {P : Program} {fr : Fr} {ops : Array Oper} {A : As} {rest : List Oper} {K : As → List (As × Fx) → Prop} {d : Nat} {t ty' : TypeId} {p : String} {e : Array Edge} [T : Tab P]
theorem r_storeNo {x y : Operand} {tg Tb off : Nat} {l l' lr : List Ty} {ti : TI} (hx : A.op fr x = .ptr tg off) (hc : A.tag tg = some (.cells Tb l)) (h1 : Tag1 tg) (hT : T.tab[ty']? = some ti) (hy : A.op fr y = .agg l') (hsz : ti.size = l'.length) (hlen : off + l'.length ≤ l.length) (ho : l'.all Ty.one = true) (hlr : l.take off ++ (l' ++ l.drop (off + l'.length)) = lr) (hdt : disj (cdepsOf lr) [tg] = true)
    (h : TOps P fr ops rest (A.after { d := none, S := [tg], sets := [(tg, .cells Tb lr)], rs := opR x ++ opR y, rt := [tg] }) fun A' l'' => K A' ((A, { d := none, S := [tg], sets := [(tg, .cells Tb lr)], rs := opR x ++ opR y, rt := [tg] }) :: l'')) :
    TOps P fr ops (⟨none, .store ty' x y, t, p, e, none⟩ :: rest) A K := by
  refine ⟨_, opT_unit rfl rfl rfl (by simp) (by simpa using h1.1) (by simp) fun a w M wf hr ht => ?_, h⟩
  obtain ⟨hdx, hdy⟩ := op2 hr
  rw [hx] at hdx; rw [hy] at hdy
  obtain ⟨b, hb, ex⟩ := hdx
  obtain ⟨vs, ey, hvs⟩ := hdy
  obtain ⟨b', cs, hb', hh, hd⟩ := ht _ (tag_mem hc) (by simp)
  obtain ⟨u, rfl⟩ : ∃ u, tg = u + 1 := ⟨tg - 1, by omega⟩
  have := wf.inj b b' u (by omega) hb hb'
  subst this
  have hl1 := dens_len hd
  have hl2 := dens_len hvs
  simp only [Array.length_toList] at hl1 hl2
  obtain ⟨h1', h2', h3'⟩ := store_le (cs' := (cs.toList.take (off + 0) ++ vs.toList ++ cs.toList.drop (off + 0 + vs.toList.length)).toArray) (Tb := Tb) wf hb _ rfl
  have hones : ∀ v ∈ vs.toList, v.oneCell' = true := fun v hv => by
    obtain ⟨i, hi, hvi⟩ := List.getElem_of_mem hv
    have hlt : i < l'.length := by simp at hi; omega
    obtain ⟨u', hu', hdu⟩ := dens_get hvs i l'[i] (List.getElem?_eq_getElem hlt)
    rw [List.getElem?_eq_getElem hi, hvi] at hu'
    injection hu' with hu'
    subst hu'
    exact (l'[i]).isOne (List.all_eq_true.1 ho _ (List.getElem_mem hlt)) hdu
  refine ⟨_, ?_, M, h1', h2', trivial, ?_⟩
  · have hst := run_storeCells_at (P := P) b off Tb vs.toList 0 cs w hh (by simp; omega) hones
    rw [setRow_set _ hh] at hst
    have hsz' : vs.size = ti.size := by omega
    simp only [Nat.add_zero] at hst ⊢
    simp [execOp, Instr.storeAt, Instr.sureAddr, ex, ey, storeVar, Value.cells, run_sizeOf' hT, hsz'] at hst ⊢
    rw [hst]; rfl
  · intro z hz
    simp only [List.mem_singleton] at hz
    subst hz
    refine ⟨b, _, hb, h3', dens_mono h2' (by intro _ _ h; cases h) (disj_spec hdt) ?_⟩
    subst hlr
    have hq := dens_append (dens_take off hd) (dens_append hvs (dens_drop (off + l'.length) hd))
    rw [show l'.length = vs.toList.length by simp; omega] at hq ⊢
    simpa using hq
end
end Go.T

namespace Go.Proofs.YtelbollidfdcjaaGreat
open Go Go.T
set_option maxHeartbeats 8000000
section
variable {d : Md} {s : Sk} {k i : Nat} {p : (List Move × List Int) × Sk} {y : Yard} {a : Amts} {m : Move} {n : Int}
theorem bs_s (d : Md) (k : Nat) : (((d.bs k).1.1 ++ [skBelow (d.bs k).2 60], (d.bs k).1.2 ++ [⟨300, skNear (skNext (d.bs k).2) (skBelow (d.bs k).2 60) 12⟩]), skNext (skNext (skNext (d.bs k).2))) = d.bs (k + 1) := rfl
theorem bs_z (d : Md) : (([], []), skNext (skNext d.s)) = d.bs 0 := rfl
theorem ms_s (d : Md) (i : Nat) : (((d.ms i).1.1 ++ [d.full (d.ms i) i], (d.ms i).1.2 ++ [d.num (d.ms i) i]), skNext (skNext (skNext (d.skM (d.ms i).2)))) = d.ms (i + 1) := rfl
theorem ms_z (d : Md) : (([], []), skNext (d.bs d.nb).2) = d.ms 0 := rfl
theorem ls_s (d : Md) (k : Nat) : ((d.ls k).1 ++ [d.lev (d.ls k).2], skNext (skNext (skNext (skNext (d.ls k).2)))) = d.ls (k + 1) := rfl
theorem ls_z (d : Md) : ([], skNext (d.hs d.nb).2) = d.ls 0 := rfl
theorem hs_s (d : Md) (k : Nat) : ((d.hs k).1.set k ⟨min 300 (d.most k (d.D + 1).toNat + skBelow (d.hs k).2 30), (nth (d.hs k).1 k).first⟩, skNext (d.hs k).2) = d.hs (k + 1) := rfl
theorem hs_z (d : Md) : (d.bins0, (d.ms d.many).2) = d.hs 0 := rfl
theorem ms_small (hd : d.Ok) (hi : i ≤ d.many) (hp : MsOk d i p) : AmS (d.yd p.1.1) (d.am p.1.2) := by
  have h := (d.bs_ok d.nb).first
  have hl := hp.len1
  refine ⟨by have := hp.len2; show p.1.1.length ≤ p.1.2.length; omega, ?_, fun x hx => ?_, fun x hx => ?_⟩
  · have h1 := (d.many_in hd).1; have h2 := hp.len2; show p.1.2.length ≤ 1000; omega
  · have := h x hx; omega
  · have := hp.num x hx; omega
theorem l1_no (h : d.src s = -1) : n = less1 y a (d.mv s i) n := (if_pos h).symm
theorem l1_yes (h : ¬ d.src s = -1) : min n (contI y a (d.src s) (d.day i)) = less1 y a (d.mv s i) n := (if_neg h).symm
theorem l2_no (h : d.dst s = -1) : n = less2 y a (d.mv s i) n := (if_pos h).symm
theorem l2_yes (h : ¬ d.dst s = -1) : min n (300 - contI y a (d.dst s) (d.day i + 1)) = less2 y a (d.mv s i) n := (if_neg h).symm
theorem l3_z : n = less3 y a m n 0 := rfl
theorem l3_src (h : ((decide ((nth y.moves k).day = m.day) && decide ((nth y.moves k).src = m.src)) && !decide (m.src = -1)) = true) : ¬ m.src = -1 := by simp only [Bool.and_eq_true, Bool.not_eq_true', decide_eq_false_iff_not] at h; exact h.2
theorem num_eq (d : Md) (p : (List Move × List Int) × Sk) (i : Nat) : max 0 (min (less3 (d.yd p.1.1) (d.am p.1.2) (d.mv p.2 i) (less2 (d.yd p.1.1) (d.am p.1.2) (d.mv p.2 i) (less1 (d.yd p.1.1) (d.am p.1.2) (d.mv p.2 i) (skBelow (d.skM p.2) 40))) (d.yd p.1.1).moves.length) (leftV (d.yd p.1.1) (d.am p.1.2) (d.mv p.2 i))) = d.num p i := rfl
theorem row_vsN {α : Type} {E : El α} {T tg n : Nat} {xs : List α} (h : xs.length = n) : (Ty.row E T tg xs).Sub (Ty.vs tg n) := by subst h; exact Ty.row_vs rfl
theorem most_z (d : Md) (b : Nat) : 0 = d.most b 0 := rfl
theorem most_s (d : Md) (b t : Nat) {bs : List Bin} : max (d.most b t) (contI ⟨d.D, bs, d.moves0, []⟩ d.real (b : Nat) (t : Nat)) = d.most b (t + 1) := by
  have e : contI ⟨d.D, bs, d.moves0, []⟩ d.real (b : Nat) (t : Nat) = contI d.y0 d.real (b : Nat) (t : Nat) := cont_bins (y := d.y0)
  rw [e]; rfl
theorem real_small (hd : d.Ok) {bs : List Bin} {l : List Level} : AmS ⟨d.D, bs, d.moves0, l⟩ d.real := by
  have h := ms_small hd (Nat.le_refl _) (d.ms_ok hd d.many (Nat.le_refl _))
  exact ⟨h.len, h.few, h.first, h.moved⟩
theorem l3_no (h : ((decide ((nth y.moves k).day = m.day) && decide ((nth y.moves k).src = m.src)) && !decide (m.src = -1)) = false) : less3 y a m n k = less3 y a m n (k + 1) := (if_neg (by rw [h]; decide)).symm
theorem l3_yes (h : ((decide ((nth y.moves k).day = m.day) && decide ((nth y.moves k).src = m.src)) && !decide (m.src = -1)) = true) : min (less3 y a m n k) (contI y a m.src m.day - nth a.moved k) = less3 y a m n (k + 1) := (if_pos h).symm
theorem mv_eq (h : d.src0 s = d.dst0 s) : (-1 = d.src s ∧ skBelow (skNext (skNext s)) d.nb = d.dst s) ∧ skNext (skNext (skNext s)) = d.skM s := ⟨⟨(if_pos h).symm, (if_pos h).symm⟩, (if_pos h).symm⟩
theorem mv_ne (h : ¬ d.src0 s = d.dst0 s) : (d.src0 s = d.src s ∧ d.dst0 s = d.dst s) ∧ skNext (skNext s) = d.skM s := ⟨⟨(if_neg h).symm, (if_neg h).symm⟩, (if_neg h).symm⟩
theorem src_ne {l : List Int} (hd : d.Ok) (h2 : ¬ d.src s = -1) (hl : l.length = d.nb) : 0 ≤ d.src s ∧ (d.src s).toNat < l.length := by
  have h1 := (d.mv_in (s := s) hd).1
  omega
theorem dst_ne {l : List Int} (hd : d.Ok) (h2 : ¬ d.dst s = -1) (hl : l.length = d.nb) : 0 ≤ d.dst s ∧ (d.dst s).toNat < l.length := by
  have h1 := (d.mv_in (s := s) hd).2.1
  omega
end
attribute [local irreducible] Md.D Md.nbI Md.nb Md.bs Md.first Md.bins0 Md.manyI Md.many Md.src Md.dst Md.skM Md.day Md.num Md.ms Md.moved Md.moves0 Md.most Md.hs Md.bins1 Md.nlI Md.nl Md.ls Md.levels1 contI less1 less2 less3 less4 skNear skNext skBelow skAmong leftV Md.src0 Md.dst0
attribute [local irreducible] dInt dBool dSl dPp dPtr dAgg dTup dClo dAny dEx dStr dGd dCells dVec dVs dRow dOp nth Tri Into TOps Ctr bodyPost Exit.then Exit.inBlock Code.wp Code.wpIn dWhen dPa dPe dAo dArr dMp dPm dMap dCJ CtrG CtrI OpY keepPost iterPost bodyPostM roundQ
set_option maxRecDepth 100000 in
theorem c_Made (d : Md) (hd : d.Ok) (h : d.s.Ok 1000) : CtrG Tryz.prog 17 [1000] [(1000, Cont.cells 149 (skTys d.s))] [Ty.ptr 1000 0, Ty.int .i64 d.days, Ty.int .i64 d.bins, Ty.int .i64 d.moves, Ty.int .i64 d.levels] [(1000, Cont.cells 149 (skTys d.sk))] (Ty.tup [yardT d.yard, amtsT d.real]) := by
  refine fnG_intro Tryz.func17 rfl (by decide) Tryz.ntmps17 (by exact Nat.le_of_ble_eq_true rfl) fun w0 M0 => ?_
  have h0 : 0 ≤ d.s.taken ∧ d.s.taken + 1000 ≤ 4611686018427387904 := h
  have o1 := hd.days
  have o2 := hd.bins
  have o3 := hd.moves
  have o4 := hd.levels
  have hD := d.D_in hd
  have hnb := d.nb_in hd
  have hmn := d.many_in hd
  have hnl := d.nl_in hd
  have hs1 := skNext_taken d.s
  have hs2 := skNext_taken (skNext d.s)
  have B := d.bs_ok d.nb
  have b1 : d.first.length = d.nb := by unfold Md.first; exact B.len1
  have b2 : d.bins0.length = d.nb := by unfold Md.bins0; exact B.len2
  refine t_seq ?_
  refine t_region ?_
  refine r_alloc rfl (by exact List.cons_ne_nil _ _) rfl ?_
  refine r_alloc rfl (by exact List.cons_ne_nil _ _) rfl ?_
  refine r_nil ?_
  refine i_then ?_
  refine t_seq ?_
  refine t_region ?_
  refine mvO rfl ?_
  refine mvI rfl ?_
  refine r_callG [(1000, 1000)] [] [(1000, Cont.cells 149 (skTys (skNext d.s)))] (c_Among d.s ⟨by omega, by omega⟩ 1 d.days (by omega) (by omega)) rfl rfl (by repeat (first | exact cv_nil | refine cv_cons ?_ ?_ | exact cv_ptr List.mem_cons_self | exact cv_pub rfl rfl)) (pre_cons (a := 1000) (b := 1000) (by exact List.mem_cons_self) rfl (cc_cells_eq (by exact List.mem_cons_self) rfl rfl rfl) pre_nil) (post_cons (a := 1000) (b := 1000) (by exact List.mem_cons_self) rfl (cc_cells_eq (by exact List.mem_cons_self) rfl rfl rfl) post_nil) (cv_pub rfl rfl) ?_
  refine r_build rfl rfl (by exact List.cons_ne_nil _ _) rfl (by repeat (first | exact (Parts.nil : Parts _ _ [] _) | (show Parts _ _ ((_, _) :: _) _; apply Parts.one; (· exact (rfl : _ = Ty.int _ _)); (· exact rfl)))) (by exact (rfl : _ = some [_, _, _, _])) ?_
  refine r_alloc rfl (by exact List.cons_ne_nil _ _) rfl ?_
  refine r_storeN rfl rfl (by decide) rfl rfl rfl rfl rfl rfl ?_
  refine r_nil ?_
  refine i_then ?_
  refine t_seq ?_
  refine t_forget (B := live [(0, Ty.ptr 1000 0), (2, Ty.int .i64 d.bins), (3, Ty.int .i64 d.moves), (4, Ty.int .i64 d.levels), (10, Ty.ptr 11 0), (11, Ty.ptr 12 0), (12, Ty.ptr 13 0)] [(11, Cont.cells 27 [Ty.int .i64 0, Ty.ex (.slice none 0 0), Ty.ex (.slice none 0 0), Ty.ex (.slice none 0 0)]), (12, Cont.cells 30 [Ty.ex (.slice none 0 0), Ty.ex (.slice none 0 0)]), (13, Cont.cells 27 [Ty.int .i64 (skAmong d.s 1 d.days), Ty.ex (.slice none 0 0), Ty.ex (.slice none 0 0), Ty.ex (.slice none 0 0)]), (1000, Cont.cells 149 (skTys (skNext d.s)))]) ?_ ?_
  · refine Ent.mk' ?_ ?_
    · (repeat (first | refine allSub_succ' ?_ (Ty.sub_any _) | refine allSub_succ' ?_ (Ty.sub_refl _))); exact allSub_zero
    · refine allTags_cons rfl (Cont.sub_refl _) ?_; refine allTags_cons rfl (Cont.sub_refl _) ?_; refine allTags_cons rfl (Cont.sub_cellsL ⟨Ty.sub_refl _, Ty.sub_refl _, Ty.sub_refl _, Ty.sub_refl _, trivial⟩) ?_; refine allTags_cons rfl (Cont.sub_refl _) ?_; exact allTags_nil
  refine t_region ?_
  refine r_alloc rfl (by exact List.cons_ne_nil _ _) rfl ?_
  refine r_nil ?_
  refine i_then ?_
  refine t_seq ?_
  refine t_seq ?_
  refine t_forget (B := live [(0, Ty.ptr 1000 0), (2, Ty.int .i64 d.bins), (3, Ty.int .i64 d.moves), (4, Ty.int .i64 d.levels), (10, Ty.ptr 11 0), (11, Ty.ptr 12 0), (12, Ty.ptr 13 0), (13, Ty.ptr 14 0)] [(11, Cont.cells 27 [Ty.int .i64 0, Ty.ex (.slice none 0 0), Ty.ex (.slice none 0 0), Ty.ex (.slice none 0 0)]), (12, Cont.cells 30 [Ty.ex (.slice none 0 0), Ty.ex (.slice none 0 0)]), (13, Cont.cells 27 [Ty.int .i64 (skAmong d.s 1 d.days), Ty.ex (.slice none 0 0), Ty.ex (.slice none 0 0), Ty.ex (.slice none 0 0)]), (14, Cont.cells 30 [Ty.ex (.slice none 0 0), Ty.ex (.slice none 0 0)]), (1000, Cont.cells 149 (skTys (skNext d.s)))]) ?_ ?_
  · refine Ent.mk' ?_ ?_
    · (repeat (first | refine allSub_succ' ?_ (Ty.sub_any _) | refine allSub_succ' ?_ (Ty.sub_refl _))); exact allSub_zero
    · refine allTags_cons rfl (Cont.sub_refl _) ?_; refine allTags_cons rfl (Cont.sub_refl _) ?_; refine allTags_cons rfl (Cont.sub_refl _) ?_; refine allTags_cons rfl (Cont.sub_refl _) ?_; refine allTags_cons rfl (Cont.sub_refl _) ?_; exact allTags_nil
  refine t_region ?_
  refine mvO rfl ?_
  refine mvI rfl ?_
  refine r_callG [(1000, 1000)] [] [(1000, Cont.cells 149 (skTys (skNext (skNext d.s))))] (c_Among (skNext d.s) ⟨by omega, by omega⟩ 1 d.bins (by omega) (by omega)) rfl rfl (by repeat (first | exact cv_nil | refine cv_cons ?_ ?_ | exact cv_ptr List.mem_cons_self | exact cv_pub rfl rfl)) (pre_cons (a := 1000) (b := 1000) (by exact List.mem_cons_self) rfl (cc_cells_eq (by exact List.mem_cons_self) rfl rfl rfl) pre_nil) (post_cons (a := 1000) (b := 1000) (by exact List.mem_cons_self) rfl (cc_cells_eq (by exact List.mem_cons_self) rfl rfl rfl) post_nil) (cv_pub rfl rfl) ?_
  refine mvI rfl ?_
  refine r_nil ?_
  refine i_then ?_
  refine t_as (s := 31) rfl (Ty.sub_int (show skAmong (skNext d.s) 1 d.bins = ((d.nb : Nat) : Int) from (show d.nbI = _ from hnb.2) ▸ (by unfold Md.nbI; rfl))) ?_
  refine t_asC (tg := 13) rfl (Cont.sub_cellsL (l' := [Ty.int .i64 d.D, Ty.ex (.slice none 0 0), Ty.ex (.slice none 0 0), Ty.ex (.slice none 0 0)]) ⟨Ty.sub_int (by unfold Md.D; rfl), Ty.sub_refl _, Ty.sub_refl _, Ty.sub_refl _, trivial⟩) ?_
  refine t_block ?_
  refine t_loop (fun (k : {k : Nat // k ≤ d.nb}) => live [(0, Ty.ptr 1000 0), (3, Ty.int .i64 d.moves), (4, Ty.int .i64 d.levels), (10, Ty.ptr 11 0), (11, Ty.ptr 12 0), (12, Ty.ptr 13 0), (13, Ty.ptr 14 0), (31, Ty.int .i64 (d.nb : Nat)), (32, Ty.int .i64 (k.1 : Nat))] [(11, Cont.cells 27 [Ty.int .i64 0, Ty.ex (.slice none 0 0), Ty.ex (.slice none 0 0), Ty.ex (.slice none 0 0)]), (12, Cont.cells 30 [Ty.ex (.slice none 0 0), Ty.ex (.slice none 0 0)]), (13, Cont.cells 27 [Ty.int .i64 d.D, Ty.row BinE 39 49 (d.bs k.1).1.2, Ty.ex (.slice none 0 0), Ty.ex (.slice none 0 0)]), (14, Cont.cells 30 [Ty.row I64 3 40 (d.bs k.1).1.1, Ty.ex (.slice none 0 0)]), (1000, Cont.cells 149 (skTys (d.bs k.1).2))]) (fun k => d.nb - k.1) (⟨0, by omega⟩) ?_ fun k => ?_
  · (refine Ent.mk' ?_ ?_ <;> (repeat' (first | exact allSub_zero | exact allTags_nil | exact subs_nil | refine allSub_succ' ?_ (Ty.sub_any _) | refine allSub_succ' ?_ (Ty.sub_refl _) | refine allTags_cons rfl (Cont.sub_refl _) ?_ | refine allTags_cons rfl (Cont.sub_subs ?_) ?_ | refine subs_cons ?_ (Ty.sub_refl _) | refine subs_cons ?_ ?_)))
    all_goals first | exact Ty.sub_int (congrArg (fun p => p.2.mixed) (bs_z d)) | exact Ty.sub_int (congrArg (fun p => p.2.taken) (bs_z d)) | exact Ty.sub_sl (congrArg (fun p => p.2.grain) (bs_z d)) | exact nil_row_eq (congrArg (fun p => p.1.1) (bs_z d)).symm | exact nil_row_eq (congrArg (fun p => p.1.2) (bs_z d)).symm
  ·
    have hk := k.2
    have BK := d.bs_ok k.1
    have c1 := BK.len1
    have c2 := BK.len2
    have c3 := BK.taken
    have c4 := skBelow_bound (d.bs k.1).2 60
    have c5 := skNext_taken (d.bs k.1).2
    refine t_seq ?_
    refine t_region ?_
    refine r_bin rfl rfl rfl ?_
    refine r_nil ?_
    refine i_then ?_
    refine t_seq ?_
    refine t_cond_dec rfl (fun hc1 => ?_) (fun hc1 => ?_)
    ·
      refine t_skip ?_
      refine i_then ?_
      refine t_seq ?_
      refine t_block ?_
      refine t_seq ?_
      refine t_region ?_
      refine mvO rfl ?_
      refine r_callG [(1000, 1000)] [] [(1000, Cont.cells 149 (skTys (skNext (d.bs k.1).2)))] (c_Below (d.bs k.1).2 ⟨by omega, by omega⟩ 60) rfl rfl (by repeat (first | exact cv_nil | refine cv_cons ?_ ?_ | exact cv_ptr List.mem_cons_self | exact cv_pub rfl rfl)) (pre_cons (a := 1000) (b := 1000) (by exact List.mem_cons_self) rfl (cc_cells_eq (by exact List.mem_cons_self) rfl rfl rfl) pre_nil) (post_cons (a := 1000) (b := 1000) (by exact List.mem_cons_self) rfl (cc_cells_eq (by exact List.mem_cons_self) rfl rfl rfl) post_nil) (cv_pub rfl rfl) ?_
      refine asI rfl ?_
      refine r_nil ?_
      refine i_then ?_
      refine t_seq ?_
      refine t_region ?_
      refine r_field_ptr rfl rfl rfl rfl rfl (by decide) ?_
      refine r_load_ptr rfl rfl (by decide) rfl rfl rfl ?_
      refine mvI rfl ?_
      refine r_buildSlice (E := I64) (xs := [skBelow (d.bs k.1).2 60]) rfl rfl rfl rfl rfl (by decide) (by decide) (by repeat (first | exact (Parts.nil : Parts _ _ [] _) | (show Parts _ _ ((_, _) :: _) _; apply Parts.one; (· exact (rfl : _ = Ty.int _ _)); (· exact rfl)))) (by exact rfl) rfl ?_
      refine r_append rfl rfl (by decide) rfl rfl rfl rfl rfl rfl (by decide) (by (simp <;> omega)) (by (simp <;> omega)) ?_
      refine r_field_ptr rfl rfl rfl rfl rfl (by decide) ?_
      refine r_store1 rfl rfl (by decide) rfl rfl (by exact (rfl : _ = Ty.row _ _ _ _)) rfl (by exact Nat.le_of_ble_eq_true rfl) rfl rfl (by exact rfl) ?_
      refine r_nil ?_
      refine i_then ?_
      refine t_forget (B := live [(0, Ty.ptr 1000 0), (3, Ty.int .i64 d.moves), (4, Ty.int .i64 d.levels), (10, Ty.ptr 11 0), (11, Ty.ptr 12 0), (12, Ty.ptr 13 0), (13, Ty.ptr 14 0), (14, Ty.int .i64 (skBelow (d.bs k.1).2 60)), (31, Ty.int .i64 (d.nb : Nat)), (32, Ty.int .i64 (k.1 : Nat))] [(11, Cont.cells 27 [Ty.int .i64 0, Ty.ex (.slice none 0 0), Ty.ex (.slice none 0 0), Ty.ex (.slice none 0 0)]), (12, Cont.cells 30 [Ty.ex (.slice none 0 0), Ty.ex (.slice none 0 0)]), (13, Cont.cells 27 [Ty.int .i64 d.D, Ty.row BinE 39 49 (d.bs k.1).1.2, Ty.ex (.slice none 0 0), Ty.ex (.slice none 0 0)]), (14, Cont.cells 30 [Ty.row I64 3 40 ((d.bs k.1).1.1 ++ [skBelow (d.bs k.1).2 60]), Ty.ex (.slice none 0 0)]), (1000, Cont.cells 149 (skTys (skNext (d.bs k.1).2)))]) ?_ ?_
      · refine Ent.mk' ?_ ?_
        · (repeat (first | refine allSub_succ' ?_ (Ty.sub_any _) | refine allSub_succ' ?_ (Ty.sub_refl _))); exact allSub_zero
        · refine allTags_cons rfl (Cont.sub_refl _) ?_; refine allTags_cons rfl (Cont.sub_refl _) ?_; refine allTags_cons rfl (Cont.sub_refl _) ?_; refine allTags_cons rfl (Cont.sub_cellsL ⟨Ty.sub_refl _, Ty.sub_refl _, trivial⟩) ?_; refine allTags_cons rfl (Cont.sub_refl _) ?_; exact allTags_nil
      refine t_draw mixed rfl ?_
      refine r_field_ptr rfl rfl rfl rfl rfl (by decide) ?_
      refine r_load_ptr rfl rfl (by decide) rfl rfl rfl ?_
      refine mvO rfl ?_
      refine mvI rfl ?_
      refine r_callG [(1000, 1000)] [] [(1000, Cont.cells 149 (skTys (skNext (skNext (skNext (d.bs k.1).2)))))] (c_near (skNext (d.bs k.1).2) ⟨by omega, by omega⟩ (skBelow (d.bs k.1).2 60) 12 (by omega) (by omega)) rfl rfl (by repeat (first | exact cv_nil | refine cv_cons ?_ ?_ | exact cv_ptr List.mem_cons_self | exact cv_pub rfl rfl)) (pre_cons (a := 1000) (b := 1000) (by exact List.mem_cons_self) rfl (cc_cells_eq (by exact List.mem_cons_self) rfl rfl rfl) pre_nil) (post_cons (a := 1000) (b := 1000) (by exact List.mem_cons_self) rfl (cc_cells_eq (by exact List.mem_cons_self) rfl rfl rfl) post_nil) (cv_pub rfl rfl) ?_
      refine r_build rfl rfl (by exact List.cons_ne_nil _ _) rfl (by repeat (first | exact (Parts.nil : Parts _ _ [] _) | (show Parts _ _ ((_, _) :: _) _; apply Parts.one; (· exact (rfl : _ = Ty.int _ _)); (· exact rfl)) | (show Parts _ _ ((_, _) :: _) _; apply Parts.agg; (· exact (rfl : _ = Ty.agg _))))) (by exact (rfl : _ = some [_, _, _])) ?_
      refine r_buildSlice (E := BinE) (xs := [⟨300, skNear (skNext (d.bs k.1).2) (skBelow (d.bs k.1).2 60) 12⟩]) rfl rfl rfl rfl rfl (by decide) (by decide) (by repeat (first | exact (Parts.nil : Parts _ _ [] _) | (show Parts _ _ ((_, _) :: _) _; apply Parts.agg; (· exact (rfl : _ = Ty.agg _))))) (by exact rfl) rfl ?_
      refine r_append rfl rfl (by decide) rfl rfl rfl rfl rfl rfl (by decide) (by (simp <;> omega)) (by (simp <;> omega)) ?_
      refine r_field_ptr rfl rfl rfl rfl rfl (by decide) ?_
      refine r_store1 rfl rfl (by decide) rfl rfl (by exact (rfl : _ = Ty.row _ _ _ _)) rfl (by exact Nat.le_of_ble_eq_true rfl) rfl rfl (by exact rfl) ?_
      refine r_nil ?_
      refine ⟨by kernel_rfl, ?_⟩
      refine i_block ?_
      refine i_then ?_
      refine t_region ?_
      refine r_add rfl rfl (by omega) (by omega) ?_
      refine mvI rfl ?_
      refine r_nil ?_
      refine i_round (⟨k.1 + 1, by omega⟩) ?_ (by show d.nb - (k.1 + 1) < d.nb - k.1; omega)
      (refine Ent.mk' ?_ ?_ <;> (repeat' (first | exact allSub_zero | exact allTags_nil | exact subs_nil | refine allSub_succ' ?_ (Ty.sub_any _) | refine allSub_succ' ?_ (Ty.sub_refl _) | refine allTags_cons rfl (Cont.sub_refl _) ?_ | refine allTags_cons rfl (Cont.sub_subs ?_) ?_ | refine subs_cons ?_ (Ty.sub_refl _) | refine subs_cons ?_ ?_)))
      all_goals skip
      all_goals first | exact Ty.sub_int (congrArg (fun p => p.2.mixed) (bs_s d _)) | exact Ty.sub_int (congrArg (fun p => p.2.taken) (bs_s d _)) | exact Ty.sub_sl (congrArg (fun p => p.2.grain) (bs_s d _)) | exact Ty.sub_row (congrArg (fun p => p.1.1) (bs_s d _)) | exact Ty.sub_row (congrArg (fun p => p.1.2) (bs_s d _))
    ·
      refine t_exit ?_
      refine i_then_exit ?_
      refine i_then_exit ?_
      refine i_block_exit rfl ?_
      refine i_then ?_
      refine t_seq ?_
      obtain ⟨k, hk⟩ := k
      obtain rfl : k = d.nb := by have h1 : ¬ (k : Int) < (d.nb : Int) := hc1; have h2 : k ≤ d.nb := hk; omega
      have b3 := B.taken
      have b4 := skNext_taken (d.bs d.nb).2
      refine t_region ?_
      refine mvO rfl ?_
      refine mvI rfl ?_
      refine r_add rfl rfl (by omega) (by omega) ?_
      refine r_callG [(1000, 1000)] [] [(1000, Cont.cells 149 (skTys (skNext (d.bs d.nb).2)))] (c_Below (d.bs d.nb).2 ⟨by omega, by omega⟩ _) rfl rfl (by repeat (first | exact cv_nil | refine cv_cons ?_ ?_ | exact cv_ptr List.mem_cons_self | exact cv_pub rfl rfl)) (pre_cons (a := 1000) (b := 1000) (by exact List.mem_cons_self) rfl (cc_cells_eq (by exact List.mem_cons_self) rfl rfl rfl) pre_nil) (post_cons (a := 1000) (b := 1000) (by exact List.mem_cons_self) rfl (cc_cells_eq (by exact List.mem_cons_self) rfl rfl rfl) post_nil) (cv_pub rfl rfl) ?_
      refine asI rfl ?_
      refine r_nil ?_
      refine i_then ?_
      refine t_seq ?_
      refine t_seq ?_
      refine t_as (s := 15) rfl (Ty.sub_int (show skBelow (d.bs d.nb).2 (d.moves + 1) = ((d.many : Nat) : Int) from hmn.2 ▸ (by unfold Md.manyI; rfl))) ?_
      refine t_asC (tg := 13) rfl (Cont.sub_cellsL (l' := [Ty.int .i64 d.D, Ty.row BinE 39 49 d.bins0, Ty.ex (.slice none 0 0), Ty.ex (.slice none 0 0)]) ⟨Ty.sub_refl _, Ty.sub_row (by unfold Md.bins0; rfl), Ty.sub_refl _, Ty.sub_refl _, trivial⟩) ?_
      refine t_asC (tg := 14) rfl (Cont.sub_cellsL (l' := [Ty.row I64 3 40 d.first, Ty.ex (.slice none 0 0)]) ⟨Ty.sub_row (by unfold Md.first; rfl), Ty.sub_refl _, trivial⟩) ?_
      refine t_region ?_
      refine mvI rfl ?_
      refine mvI rfl ?_
      refine r_nil ?_
      refine i_then ?_
      refine t_block ?_
      refine t_loop (fun (i : {i : Nat // i ≤ d.many}) => live [(0, Ty.ptr 1000 0), (4, Ty.int .i64 d.levels), (10, Ty.ptr 11 0), (11, Ty.ptr 12 0), (12, Ty.ptr 13 0), (13, Ty.ptr 14 0), (15, Ty.int .i64 (d.many : Nat)), (56, Ty.int .i64 (d.many : Nat)), (57, Ty.int .i64 (i.1 : Nat))] [(11, Cont.cells 27 [Ty.int .i64 0, Ty.ex (.slice none 0 0), Ty.ex (.slice none 0 0), Ty.ex (.slice none 0 0)]), (12, Cont.cells 30 [Ty.ex (.slice none 0 0), Ty.ex (.slice none 0 0)]), (13, Cont.cells 27 [Ty.int .i64 d.D, Ty.row BinE 39 49 d.bins0, Ty.row MoveE 41 175 (d.ms i.1).1.1, Ty.ex (.slice none 0 0)]), (14, Cont.cells 30 [Ty.row I64 3 40 d.first, Ty.row I64 3 180 (d.ms i.1).1.2]), (1000, Cont.cells 149 (skTys (d.ms i.1).2))]) (fun i => d.many - i.1) (⟨0, by omega⟩) ?_ fun i => ?_
      · (refine Ent.mk' ?_ ?_ <;> (repeat' (first | exact allSub_zero | exact allTags_nil | exact subs_nil | refine allSub_succ' ?_ (Ty.sub_any _) | refine allSub_succ' ?_ (Ty.sub_refl _) | refine allTags_cons rfl (Cont.sub_refl _) ?_ | refine allTags_cons rfl (Cont.sub_subs ?_) ?_ | refine subs_cons ?_ (Ty.sub_refl _) | refine subs_cons ?_ ?_)))
        all_goals first | exact Ty.sub_int (congrArg (fun p => p.2.mixed) (ms_z d)) | exact Ty.sub_int (congrArg (fun p => p.2.taken) (ms_z d)) | exact Ty.sub_sl (congrArg (fun p => p.2.grain) (ms_z d)) | exact nil_row_eq (congrArg (fun p => p.1.1) (ms_z d)).symm | exact nil_row_eq (congrArg (fun p => p.1.2) (ms_z d)).symm
      ·
        have hi := i.2
        have hP := d.ms_ok hd i.1 hi
        have e1 := hP.len1
        have e2 := hP.len2
        have e3 := hP.taken
        have e4 := d.skM_taken (d.ms i.1).2
        have e5 := skNext_taken (d.skM (d.ms i.1).2)
        have e6 := skBelow_bound (d.skM (d.ms i.1).2) 40
        have e7 := skNext_taken (d.ms i.1).2
        have e8 := skNext_taken (skNext (d.ms i.1).2)
        refine t_seq ?_
        refine t_region ?_
        refine r_bin rfl rfl rfl ?_
        refine r_nil ?_
        refine i_then ?_
        refine t_seq ?_
        refine t_cond_dec rfl (fun hc2 => ?_) (fun hc2 => ?_)
        ·
          refine t_skip ?_
          refine i_then ?_
          refine t_seq ?_
          refine t_block ?_
          refine t_seq ?_
          refine t_region ?_
          refine mvI rfl ?_
          refine asI rfl ?_
          refine r_nil ?_
          refine i_then ?_
          refine t_seq ?_
          have hdv := div_step (D := d.D) (i := i.1) (n := d.many) hD.1 (by omega)
          have hmul : 0 ≤ (i.1 : Int) * d.D ∧ (i.1 : Int) * d.D ≤ 10 * 5 := ⟨Int.mul_nonneg (by omega) (by omega), Int.mul_le_mul (by omega) hD.2 (by omega) (by omega)⟩
          have hday : 0 ≤ d.day i.1 ∧ d.day i.1 < d.D := by unfold Md.day; exact hdv.1
          have hCI : ∀ (b t : Int), 0 ≤ b → b.toNat < d.first.length → 0 ≤ contI (d.yd (d.ms i.1).1.1) (d.am (d.ms i.1).1.2) b t ∧ contI (d.yd (d.ms i.1).1.1) (d.am (d.ms i.1).1.2) b t ≤ 300 := fun b t g0 g1 => by
            have := hP.cont b.toNat t (by omega)
            rwa [Int.toNat_of_nonneg g0] at this
          refine t_draw mixed rfl ?_
          refine mvI rfl ?_
          refine r_field_ptr rfl rfl rfl rfl rfl (by decide) ?_
          refine r_load_ptr rfl rfl (by decide) rfl rfl rfl ?_
          refine r_mul rfl rfl (by omega) (by omega) ?_
          refine mvI rfl ?_
          refine r_quo rfl rfl (by omega) ?_
          refine mvO rfl ?_
          refine r_field_ptr rfl rfl rfl rfl rfl (by decide) ?_
          refine r_load_ptr rfl rfl (by decide) rfl rfl rfl ?_
          refine r_len_row rfl rfl rfl ?_
          refine r_sub rfl rfl (by omega) (by omega) ?_
          refine r_callG [(1000, 1000)] [] [(1000, Cont.cells 149 (skTys (skNext (d.ms i.1).2)))] (c_Among (d.ms i.1).2 ⟨by omega, by omega⟩ (-1) ((d.bins0.length : Int) - 1) (by omega) (by omega)) rfl rfl (by repeat (first | exact cv_nil | refine cv_cons ?_ ?_ | exact cv_ptr List.mem_cons_self | exact cv_pub rfl rfl)) (pre_cons (a := 1000) (b := 1000) (by exact List.mem_cons_self) rfl (cc_cells_eq (by exact List.mem_cons_self) rfl rfl rfl) pre_nil) (post_cons (a := 1000) (b := 1000) (by exact List.mem_cons_self) rfl (cc_cells_eq (by exact List.mem_cons_self) rfl rfl rfl) post_nil) (cv_pub rfl rfl) ?_
          refine mvO rfl ?_
          refine r_field_ptr rfl rfl rfl rfl rfl (by decide) ?_
          refine r_load_ptr rfl rfl (by decide) rfl rfl rfl ?_
          refine r_len_row rfl rfl rfl ?_
          refine r_sub rfl rfl (by omega) (by omega) ?_
          refine r_callG [(1000, 1000)] [] [(1000, Cont.cells 149 (skTys (skNext (skNext (d.ms i.1).2))))] (c_Among (skNext (d.ms i.1).2) ⟨by omega, by omega⟩ (-1) ((d.bins0.length : Int) - 1) (by omega) (by omega)) rfl rfl (by repeat (first | exact cv_nil | refine cv_cons ?_ ?_ | exact cv_ptr List.mem_cons_self | exact cv_pub rfl rfl)) (pre_cons (a := 1000) (b := 1000) (by exact List.mem_cons_self) rfl (cc_cells_eq (by exact List.mem_cons_self) rfl rfl rfl) pre_nil) (post_cons (a := 1000) (b := 1000) (by exact List.mem_cons_self) rfl (cc_cells_eq (by exact List.mem_cons_self) rfl rfl rfl) post_nil) (cv_pub rfl rfl) ?_
          refine r_build rfl rfl (by exact List.cons_ne_nil _ _) rfl (by repeat (first | exact (Parts.nil : Parts _ _ [] _) | (show Parts _ _ ((_, _) :: _) _; apply Parts.one; (· exact (rfl : _ = Ty.int _ _)); (· exact rfl)))) (by exact rfl) ?_
          refine r_alloc rfl (by exact List.cons_ne_nil _ _) rfl ?_
          refine r_storeN rfl rfl (by decide) rfl rfl rfl rfl rfl rfl ?_
          refine r_nil ?_
          refine ⟨by kernel_rfl, ?_⟩
          refine i_then ?_
          refine t_join (J := live [(0, Ty.ptr 1000 0), (4, Ty.int .i64 d.levels), (10, Ty.ptr 11 0), (11, Ty.ptr 12 0), (12, Ty.ptr 13 0), (13, Ty.ptr 14 0), (15, Ty.int .i64 (d.many : Nat)), (56, Ty.int .i64 (d.many : Nat)), (57, Ty.int .i64 (i.1 : Nat)), (17, Ty.ptr 18 0)] [(11, Cont.cells 27 [Ty.int .i64 0, Ty.ex (.slice none 0 0), Ty.ex (.slice none 0 0), Ty.ex (.slice none 0 0)]), (12, Cont.cells 30 [Ty.ex (.slice none 0 0), Ty.ex (.slice none 0 0)]), (13, Cont.cells 27 [Ty.int .i64 d.D, Ty.row BinE 39 49 d.bins0, Ty.row MoveE 41 175 (d.ms i.1).1.1, Ty.ex (.slice none 0 0)]), (14, Cont.cells 30 [Ty.row I64 3 40 d.first, Ty.row I64 3 180 (d.ms i.1).1.2]), (18, Cont.cells 41 [Ty.int .i64 (d.day i.1), Ty.int .i64 (d.src (d.ms i.1).2), Ty.int .i64 (d.dst (d.ms i.1).2), Ty.int .i64 0, Ty.int .i64 0]), (1000, Cont.cells 149 (skTys (d.skM (d.ms i.1).2)))]) ?_ ?_
          ·
            refine t_seq ?_
            refine t_asC (tg := 18) rfl (Cont.sub_cellsL (l' := [Ty.int .i64 (d.day i.1), Ty.int .i64 (d.src0 (d.ms i.1).2), Ty.int .i64 (d.dst0 (d.ms i.1).2), Ty.int .i64 0, Ty.int .i64 0]) ⟨Ty.sub_int (by unfold Md.day; exact IntWalk.i64_in _ (by have := hdv.1; omega)), Ty.sub_int (by unfold Md.src0; rw [b2]), Ty.sub_int (by unfold Md.dst0; rw [b2]), Ty.sub_refl _, Ty.sub_refl _, trivial⟩) ?_
            refine t_forget (B := live [(0, Ty.ptr 1000 0), (4, Ty.int .i64 d.levels), (10, Ty.ptr 11 0), (11, Ty.ptr 12 0), (12, Ty.ptr 13 0), (13, Ty.ptr 14 0), (15, Ty.int .i64 (d.many : Nat)), (56, Ty.int .i64 (d.many : Nat)), (57, Ty.int .i64 (i.1 : Nat)), (17, Ty.ptr 18 0)] [(11, Cont.cells 27 [Ty.int .i64 0, Ty.ex (.slice none 0 0), Ty.ex (.slice none 0 0), Ty.ex (.slice none 0 0)]), (12, Cont.cells 30 [Ty.ex (.slice none 0 0), Ty.ex (.slice none 0 0)]), (13, Cont.cells 27 [Ty.int .i64 d.D, Ty.row BinE 39 49 d.bins0, Ty.row MoveE 41 175 (d.ms i.1).1.1, Ty.ex (.slice none 0 0)]), (14, Cont.cells 30 [Ty.row I64 3 40 d.first, Ty.row I64 3 180 (d.ms i.1).1.2]), (18, Cont.cells 41 [Ty.int .i64 (d.day i.1), Ty.int .i64 (d.src0 (d.ms i.1).2), Ty.int .i64 (d.dst0 (d.ms i.1).2), Ty.int .i64 0, Ty.int .i64 0]), (1000, Cont.cells 149 (skTys (skNext (skNext (d.ms i.1).2))))]) ?_ ?_
            · refine Ent.mk' ?_ ?_
              · (repeat (first | refine allSub_succ' ?_ (Ty.sub_any _) | refine allSub_succ' ?_ (Ty.sub_refl _))); exact allSub_zero
              · refine allTags_cons rfl (Cont.sub_refl _) ?_; refine allTags_cons rfl (Cont.sub_refl _) ?_; refine allTags_cons rfl (Cont.sub_refl _) ?_; refine allTags_cons rfl (Cont.sub_refl _) ?_; refine allTags_cons rfl (Cont.sub_refl _) ?_; refine allTags_cons rfl (Cont.sub_refl _) ?_; exact allTags_nil
            refine t_region ?_
            refine r_field_ptr rfl rfl rfl rfl rfl (by decide) ?_
            refine r_load_ptr rfl rfl (by decide) rfl rfl rfl ?_
            refine r_field_ptr rfl rfl rfl rfl rfl (by decide) ?_
            refine r_load_ptr rfl rfl (by decide) rfl rfl rfl ?_
            refine r_bin rfl rfl rfl ?_
            refine r_nil ?_
            refine i_then ?_
            refine t_cond_dec rfl (fun hc3 => ?_) (fun hc3 => ?_)
            ·
              refine t_region ?_
              refine mvO rfl ?_
              refine r_field_ptr rfl rfl rfl rfl rfl (by decide) ?_
              refine r_load_ptr rfl rfl (by decide) rfl rfl rfl ?_
              refine r_len_row rfl rfl rfl ?_
              refine r_callG [(1000, 1000)] [] [(1000, Cont.cells 149 (skTys (skNext (skNext (skNext (d.ms i.1).2)))))] (c_Below (skNext (skNext (d.ms i.1).2)) ⟨by omega, by omega⟩ _) rfl rfl (by repeat (first | exact cv_nil | refine cv_cons ?_ ?_ | exact cv_ptr List.mem_cons_self | exact cv_pub rfl rfl)) (pre_cons (a := 1000) (b := 1000) (by exact List.mem_cons_self) rfl (cc_cells_eq (by exact List.mem_cons_self) rfl rfl rfl) pre_nil) (post_cons (a := 1000) (b := 1000) (by exact List.mem_cons_self) rfl (cc_cells_eq (by exact List.mem_cons_self) rfl rfl rfl) post_nil) (cv_pub rfl rfl) ?_
              refine r_field_ptr rfl rfl rfl rfl rfl (by decide) ?_
              refine r_store1 rfl rfl (by decide) rfl rfl (by exact (rfl : _ = Ty.int _ _)) rfl (by exact Nat.le_of_ble_eq_true rfl) rfl rfl (by exact rfl) ?_
              refine r_field_ptr rfl rfl rfl rfl rfl (by decide) ?_
              refine r_store1 rfl rfl (by decide) rfl rfl (by exact (rfl : _ = Ty.int _ _)) rfl (by exact Nat.le_of_ble_eq_true rfl) rfl rfl (by exact rfl) ?_
              refine r_nil ?_
              refine i_join ?_
              (refine Ent.mk' ?_ ?_ <;> (repeat' (first | exact allSub_zero | exact allTags_nil | exact subs_nil | refine allSub_succ' ?_ (Ty.sub_any _) | refine allSub_succ' ?_ (Ty.sub_refl _) | refine allTags_cons rfl (Cont.sub_refl _) ?_ | refine allTags_cons rfl (Cont.sub_subs ?_) ?_ | refine subs_cons ?_ (Ty.sub_refl _) | refine subs_cons ?_ ?_)))
              all_goals first | exact Ty.sub_int (mv_eq hc3).1.1 | exact Ty.sub_int (by rw [b2]; exact (mv_eq hc3).1.2) | exact Ty.sub_int (congrArg (fun p => p.mixed) (mv_eq hc3).2) | exact Ty.sub_int (congrArg (fun p => p.taken) (mv_eq hc3).2) | exact Ty.sub_sl (congrArg (fun p => p.grain) (mv_eq hc3).2)
            ·
              refine t_skip ?_
              refine i_join ?_
              (refine Ent.mk' ?_ ?_ <;> (repeat' (first | exact allSub_zero | exact allTags_nil | exact subs_nil | refine allSub_succ' ?_ (Ty.sub_any _) | refine allSub_succ' ?_ (Ty.sub_refl _) | refine allTags_cons rfl (Cont.sub_refl _) ?_ | refine allTags_cons rfl (Cont.sub_subs ?_) ?_ | refine subs_cons ?_ (Ty.sub_refl _) | refine subs_cons ?_ ?_)))
              all_goals first | exact Ty.sub_int (mv_ne hc3).1.1 | exact Ty.sub_int (mv_ne hc3).1.2 | exact Ty.sub_int (congrArg (fun p => p.mixed) (mv_ne hc3).2) | exact Ty.sub_int (congrArg (fun p => p.taken) (mv_ne hc3).2) | exact Ty.sub_sl (congrArg (fun p => p.grain) (mv_ne hc3).2)
          ·
            refine t_seq ?_
            refine t_region ?_
            refine mvO rfl ?_
            refine r_callG [(1000, 1000)] [] [(1000, Cont.cells 149 (skTys (skNext (d.skM (d.ms i.1).2))))] (c_Below (d.skM (d.ms i.1).2) ⟨by omega, by omega⟩ 40) rfl rfl (by repeat (first | exact cv_nil | refine cv_cons ?_ ?_ | exact cv_ptr List.mem_cons_self | exact cv_pub rfl rfl)) (pre_cons (a := 1000) (b := 1000) (by exact List.mem_cons_self) rfl (cc_cells_eq (by exact List.mem_cons_self) rfl rfl rfl) pre_nil) (post_cons (a := 1000) (b := 1000) (by exact List.mem_cons_self) rfl (cc_cells_eq (by exact List.mem_cons_self) rfl rfl rfl) post_nil) (cv_pub rfl rfl) ?_
            refine asI rfl ?_
            refine r_nil ?_
            refine i_then ?_
            refine t_join (J := live [(0, Ty.ptr 1000 0), (4, Ty.int .i64 d.levels), (10, Ty.ptr 11 0), (11, Ty.ptr 12 0), (12, Ty.ptr 13 0), (13, Ty.ptr 14 0), (15, Ty.int .i64 (d.many : Nat)), (56, Ty.int .i64 (d.many : Nat)), (57, Ty.int .i64 (i.1 : Nat)), (17, Ty.ptr 18 0), (18, Ty.int .i64 (less1 (d.yd (d.ms i.1).1.1) (d.am (d.ms i.1).1.2) (d.mv (d.ms i.1).2 i.1) (skBelow (d.skM (d.ms i.1).2) 40)))] [(11, Cont.cells 27 [Ty.int .i64 0, Ty.ex (.slice none 0 0), Ty.ex (.slice none 0 0), Ty.ex (.slice none 0 0)]), (12, Cont.cells 30 [Ty.ex (.slice none 0 0), Ty.ex (.slice none 0 0)]), (13, Cont.cells 27 [Ty.int .i64 d.D, Ty.row BinE 39 49 d.bins0, Ty.row MoveE 41 175 (d.ms i.1).1.1, Ty.ex (.slice none 0 0)]), (14, Cont.cells 30 [Ty.row I64 3 40 d.first, Ty.row I64 3 180 (d.ms i.1).1.2]), (18, Cont.cells 41 [Ty.int .i64 (d.day i.1), Ty.int .i64 (d.src (d.ms i.1).2), Ty.int .i64 (d.dst (d.ms i.1).2), Ty.int .i64 0, Ty.int .i64 0]), (1000, Cont.cells 149 (skTys (skNext (d.skM (d.ms i.1).2))))]) ?_ ?_
            ·
              refine t_seq ?_
              refine t_region ?_
              refine r_field_ptr rfl rfl rfl rfl rfl (by decide) ?_
              refine r_load_ptr rfl rfl (by decide) rfl rfl rfl ?_
              refine r_bin rfl rfl rfl ?_
              refine r_nil ?_
              refine i_then ?_
              refine t_cond_ndec rfl (fun hc4 => ?_) (fun hc4 => ?_)
              ·
                refine t_region ?_
                refine mvI rfl ?_
                refine r_load_ptrN rfl rfl (by decide) rfl rfl (by exact Nat.le_of_ble_eq_true rfl) ?_
                refine r_load_ptrN rfl rfl (by decide) rfl rfl (by exact Nat.le_of_ble_eq_true rfl) ?_
                refine r_field_ptr rfl rfl rfl rfl rfl (by decide) ?_
                refine r_load_ptr rfl rfl (by decide) rfl rfl rfl ?_
                refine r_field_ptr rfl rfl rfl rfl rfl (by decide) ?_
                refine r_load_ptr rfl rfl (by decide) rfl rfl rfl ?_
                refine r_callLC [49, 175, 40, 180] (c_contents (d.yd (d.ms i.1).1.1) (d.am (d.ms i.1).1.2) (ms_small hd hi hP) (d.src (d.ms i.1).2) (d.day i.1) (src_ne hd hc4 b1).1 (src_ne hd hc4 b1).2) rfl (lendcs_cons (lendc_agg (lendcs_cons (lendc_of (lend_pub rfl rfl)) (lendcs_cons (lendc_of (lend_row rfl)) (lendcs_cons (lendc_of (lend_row rfl)) (lendcs_cons (lendc_of lend_nil) lendcs_nil))))) (lendcs_cons (lendc_agg (lendcs_cons (lendc_of (lend_row rfl)) (lendcs_cons (lendc_of (lend_row rfl)) lendcs_nil))) (lendcs_cons (lendc_of (lend_pub rfl rfl)) (lendcs_cons (lendc_of (lend_pub rfl rfl)) lendcs_nil)))) (by exact plain_int _ _) ?_
                refine r_min rfl rfl ?_
                refine asI rfl ?_
                refine r_nil ?_
                refine i_join ?_
                (refine Ent.mk' ?_ ?_ <;> (repeat' (first | exact allSub_zero | exact allTags_nil | refine allSub_succ' ?_ (Ty.sub_any _) | refine allSub_succ' ?_ (Ty.sub_refl _) | refine allTags_cons rfl (Cont.sub_refl _) ?_ | refine allSub_succ' ?_ ?_)))
                all_goals exact Ty.sub_int (l1_yes hc4)
              ·
                refine t_skip ?_
                refine i_join ?_
                (refine Ent.mk' ?_ ?_ <;> (repeat' (first | exact allSub_zero | exact allTags_nil | refine allSub_succ' ?_ (Ty.sub_any _) | refine allSub_succ' ?_ (Ty.sub_refl _) | refine allTags_cons rfl (Cont.sub_refl _) ?_ | refine allSub_succ' ?_ ?_)))
                all_goals exact Ty.sub_int (l1_no hc4)
            ·
              refine t_join (J := live [(0, Ty.ptr 1000 0), (4, Ty.int .i64 d.levels), (10, Ty.ptr 11 0), (11, Ty.ptr 12 0), (12, Ty.ptr 13 0), (13, Ty.ptr 14 0), (15, Ty.int .i64 (d.many : Nat)), (56, Ty.int .i64 (d.many : Nat)), (57, Ty.int .i64 (i.1 : Nat)), (17, Ty.ptr 18 0), (18, Ty.int .i64 (less2 (d.yd (d.ms i.1).1.1) (d.am (d.ms i.1).1.2) (d.mv (d.ms i.1).2 i.1) (less1 (d.yd (d.ms i.1).1.1) (d.am (d.ms i.1).1.2) (d.mv (d.ms i.1).2 i.1) (skBelow (d.skM (d.ms i.1).2) 40))))] [(11, Cont.cells 27 [Ty.int .i64 0, Ty.ex (.slice none 0 0), Ty.ex (.slice none 0 0), Ty.ex (.slice none 0 0)]), (12, Cont.cells 30 [Ty.ex (.slice none 0 0), Ty.ex (.slice none 0 0)]), (13, Cont.cells 27 [Ty.int .i64 d.D, Ty.row BinE 39 49 d.bins0, Ty.row MoveE 41 175 (d.ms i.1).1.1, Ty.ex (.slice none 0 0)]), (14, Cont.cells 30 [Ty.row I64 3 40 d.first, Ty.row I64 3 180 (d.ms i.1).1.2]), (18, Cont.cells 41 [Ty.int .i64 (d.day i.1), Ty.int .i64 (d.src (d.ms i.1).2), Ty.int .i64 (d.dst (d.ms i.1).2), Ty.int .i64 0, Ty.int .i64 0]), (1000, Cont.cells 149 (skTys (skNext (d.skM (d.ms i.1).2))))]) ?_ ?_
              ·
                refine t_seq ?_
                refine t_region ?_
                refine r_field_ptr rfl rfl rfl rfl rfl (by decide) ?_
                refine r_load_ptr rfl rfl (by decide) rfl rfl rfl ?_
                refine r_bin rfl rfl rfl ?_
                refine r_nil ?_
                refine i_then ?_
                refine t_cond_ndec rfl (fun hc5 => ?_) (fun hc5 => ?_)
                ·
                  have hq := hCI (d.dst (d.ms i.1).2) (d.day i.1 + 1) (dst_ne hd hc5 b1).1 (dst_ne hd hc5 b1).2
                  refine t_region ?_
                  refine mvI rfl ?_
                  refine r_load_ptrN rfl rfl (by decide) rfl rfl (by exact Nat.le_of_ble_eq_true rfl) ?_
                  refine r_load_ptrN rfl rfl (by decide) rfl rfl (by exact Nat.le_of_ble_eq_true rfl) ?_
                  refine r_field_ptr rfl rfl rfl rfl rfl (by decide) ?_
                  refine r_load_ptr rfl rfl (by decide) rfl rfl rfl ?_
                  refine r_field_ptr rfl rfl rfl rfl rfl (by decide) ?_
                  refine r_load_ptr rfl rfl (by decide) rfl rfl rfl ?_
                  refine r_add rfl rfl (by omega) (by omega) ?_
                  refine r_callLC [49, 175, 40, 180] (c_contents (d.yd (d.ms i.1).1.1) (d.am (d.ms i.1).1.2) (ms_small hd hi hP) (d.dst (d.ms i.1).2) (d.day i.1 + 1) (dst_ne hd hc5 b1).1 (dst_ne hd hc5 b1).2) rfl (lendcs_cons (lendc_agg (lendcs_cons (lendc_of (lend_pub rfl rfl)) (lendcs_cons (lendc_of (lend_row rfl)) (lendcs_cons (lendc_of (lend_row rfl)) (lendcs_cons (lendc_of lend_nil) lendcs_nil))))) (lendcs_cons (lendc_agg (lendcs_cons (lendc_of (lend_row rfl)) (lendcs_cons (lendc_of (lend_row rfl)) lendcs_nil))) (lendcs_cons (lendc_of (lend_pub rfl rfl)) (lendcs_cons (lendc_of (lend_pub rfl rfl)) lendcs_nil)))) (by exact plain_int _ _) ?_
                  refine r_sub rfl rfl (by omega) (by omega) ?_
                  refine r_min rfl rfl ?_
                  refine asI rfl ?_
                  refine r_nil ?_
                  refine i_join ?_
                  (refine Ent.mk' ?_ ?_ <;> (repeat' (first | exact allSub_zero | exact allTags_nil | refine allSub_succ' ?_ (Ty.sub_any _) | refine allSub_succ' ?_ (Ty.sub_refl _) | refine allTags_cons rfl (Cont.sub_refl _) ?_ | refine allSub_succ' ?_ ?_)))
                  all_goals exact Ty.sub_int (l2_yes hc5)
                ·
                  refine t_skip ?_
                  refine i_join ?_
                  (refine Ent.mk' ?_ ?_ <;> (repeat' (first | exact allSub_zero | exact allTags_nil | refine allSub_succ' ?_ (Ty.sub_any _) | refine allSub_succ' ?_ (Ty.sub_refl _) | refine allTags_cons rfl (Cont.sub_refl _) ?_ | refine allSub_succ' ?_ ?_)))
                  all_goals exact Ty.sub_int (l2_no hc5)
              ·
                refine t_seq ?_
                refine t_seq ?_
                refine t_region ?_
                refine r_field_ptr rfl rfl rfl rfl rfl (by decide) ?_
                refine r_load_ptr rfl rfl (by decide) rfl rfl rfl ?_
                refine r_len_row rfl rfl rfl ?_
                refine mvI rfl ?_
                refine r_nil ?_
                refine i_then ?_
                refine t_block ?_
                refine t_loop (fun (k : {k : Nat // k ≤ (d.ms i.1).1.1.length}) => live [(0, Ty.ptr 1000 0), (4, Ty.int .i64 d.levels), (10, Ty.ptr 11 0), (11, Ty.ptr 12 0), (12, Ty.ptr 13 0), (13, Ty.ptr 14 0), (15, Ty.int .i64 (d.many : Nat)), (56, Ty.int .i64 (d.many : Nat)), (57, Ty.int .i64 (i.1 : Nat)), (17, Ty.ptr 18 0), (18, Ty.int .i64 (less3 (d.yd (d.ms i.1).1.1) (d.am (d.ms i.1).1.2) (d.mv (d.ms i.1).2 i.1) (less2 (d.yd (d.ms i.1).1.1) (d.am (d.ms i.1).1.2) (d.mv (d.ms i.1).2 i.1) (less1 (d.yd (d.ms i.1).1.1) (d.am (d.ms i.1).1.2) (d.mv (d.ms i.1).2 i.1) (skBelow (d.skM (d.ms i.1).2) 40))) k.1)), (120, Ty.row MoveE 41 175 (d.ms i.1).1.1), (121, Ty.int .i64 (d.ms i.1).1.1.length), (122, Ty.int .i64 (k.1 : Nat))] [(11, Cont.cells 27 [Ty.int .i64 0, Ty.ex (.slice none 0 0), Ty.ex (.slice none 0 0), Ty.ex (.slice none 0 0)]), (12, Cont.cells 30 [Ty.ex (.slice none 0 0), Ty.ex (.slice none 0 0)]), (13, Cont.cells 27 [Ty.int .i64 d.D, Ty.row BinE 39 49 d.bins0, Ty.row MoveE 41 175 (d.ms i.1).1.1, Ty.ex (.slice none 0 0)]), (14, Cont.cells 30 [Ty.row I64 3 40 d.first, Ty.row I64 3 180 (d.ms i.1).1.2]), (18, Cont.cells 41 [Ty.int .i64 (d.day i.1), Ty.int .i64 (d.src (d.ms i.1).2), Ty.int .i64 (d.dst (d.ms i.1).2), Ty.int .i64 0, Ty.int .i64 0]), (1000, Cont.cells 149 (skTys (skNext (d.skM (d.ms i.1).2))))]) (fun k => (d.ms i.1).1.1.length - k.1) (⟨0, by omega⟩) ?_ fun k => ?_
                · (refine Ent.mk' ?_ ?_ <;> (repeat' (first | exact allSub_zero | exact allTags_nil | refine allSub_succ' ?_ (Ty.sub_any _) | refine allSub_succ' ?_ (Ty.sub_refl _) | refine allTags_cons rfl (Cont.sub_refl _) ?_ | refine allSub_succ' ?_ ?_)))
                  all_goals exact Ty.sub_int l3_z
                ·
                  have hk := k.2
                  refine t_seq ?_
                  refine t_region ?_
                  refine r_bin rfl rfl rfl ?_
                  refine r_nil ?_
                  refine i_then ?_
                  refine t_seq ?_
                  refine t_cond_dec rfl (fun hc6 => ?_) (fun hc6 => ?_)
                  ·
                    refine t_skip ?_
                    refine i_then ?_
                    refine t_seq ?_
                    refine t_block ?_
                    refine t_seq ?_
                    refine t_region ?_
                    refine mvI rfl ?_
                    refine r_index_rowN rfl rfl rfl rfl rfl rfl (by omega) ?_
                    refine r_load_opN rfl rfl rfl (by exact Nat.le_of_ble_eq_true rfl) ?_
                    refine r_alloc rfl (by exact List.cons_ne_nil _ _) rfl ?_
                    refine asI rfl ?_
                    refine r_storeN rfl rfl (by decide) rfl rfl rfl rfl rfl rfl ?_
                    refine r_nil ?_
                    refine i_then ?_
                    refine t_seq ?_
                    refine t_region ?_
                    refine r_field_ptr rfl rfl rfl rfl rfl (by decide) ?_
                    refine r_load_ptr rfl rfl (by decide) rfl rfl rfl ?_
                    refine r_field_ptr rfl rfl rfl rfl rfl (by decide) ?_
                    refine r_load_ptr rfl rfl (by decide) rfl rfl rfl ?_
                    refine r_bin rfl rfl rfl ?_
                    refine mvB rfl ?_
                    apply r_guard (s := 132) rfl rfl rfl
                    · intro hg; apply opT_of; (refine r_field_ptr rfl rfl rfl rfl rfl (by decide) ?_); refine r_nil ?_; exact rfl
                    · exact rfl
                    · exact rfl
                    apply r_guard (s := 132) rfl rfl rfl
                    · intro hg; apply opT_strip (s := 133) rfl (by (rw [hg]; rfl)); apply opT_of; (refine r_load_ptr rfl rfl (by decide) rfl rfl rfl ?_); refine r_nil ?_; exact rfl
                    · exact rfl
                    · exact rfl
                    apply r_guard (s := 132) rfl rfl rfl
                    · intro hg; apply opT_of; (refine r_field_ptr rfl rfl rfl rfl rfl (by decide) ?_); refine r_nil ?_; exact rfl
                    · exact rfl
                    · exact rfl
                    apply r_guard (s := 132) rfl rfl rfl
                    · intro hg; apply opT_strip (s := 135) rfl (by (rw [hg]; rfl)); apply opT_of; (refine r_load_ptr rfl rfl (by decide) rfl rfl rfl ?_); refine r_nil ?_; exact rfl
                    · exact rfl
                    · exact rfl
                    apply r_guard (s := 132) rfl rfl rfl
                    · intro hg; apply opT_strip (s := 134) rfl (by (rw [hg]; rfl)); apply opT_strip (s := 136) rfl (by (rw [hg]; rfl)); apply opT_of; (refine r_bin rfl rfl rfl ?_); refine r_nil ?_; exact rfl
                    · exact rfl
                    · exact rfl
                    refine r_and rfl rfl ?_
                    refine mvB rfl ?_
                    apply r_guard (s := 139) rfl rfl rfl
                    · intro hg; apply opT_of; (refine r_field_ptr rfl rfl rfl rfl rfl (by decide) ?_); refine r_nil ?_; exact rfl
                    · exact rfl
                    · exact rfl
                    apply r_guard (s := 139) rfl rfl rfl
                    · intro hg; apply opT_strip (s := 140) rfl (by (rw [hg]; rfl)); apply opT_of; (refine r_load_ptr rfl rfl (by decide) rfl rfl rfl ?_); refine r_nil ?_; exact rfl
                    · exact rfl
                    · exact rfl
                    apply r_guard (s := 139) rfl rfl rfl
                    · intro hg; apply opT_strip (s := 141) rfl (by (rw [hg]; rfl)); apply opT_of; (refine r_bin rfl rfl rfl ?_); refine r_nil ?_; exact rfl
                    · exact rfl
                    · exact rfl
                    refine r_and rfl rfl ?_
                    refine r_nil ?_
                    refine i_then ?_
                    refine t_cond rfl (fun hc7 => ?_) (fun hc7 => ?_)
                    ·
                      have hsr := src_ne hd (l3_src (y := (d.yd (d.ms i.1).1.1)) (m := (d.mv (d.ms i.1).2 i.1)) hc7) b1
                      have hq := hCI (d.src (d.ms i.1).2) (d.day i.1) hsr.1 hsr.2
                      have hmk := hP.num _ (nth_mem (show k.1 < (d.ms i.1).1.2.length by omega))
                      refine t_draw mixed rfl ?_
                      refine mvI rfl ?_
                      refine r_load_ptrN rfl rfl (by decide) rfl rfl (by exact Nat.le_of_ble_eq_true rfl) ?_
                      refine r_load_ptrN rfl rfl (by decide) rfl rfl (by exact Nat.le_of_ble_eq_true rfl) ?_
                      refine r_field_ptr rfl rfl rfl rfl rfl (by decide) ?_
                      refine r_load_ptr rfl rfl (by decide) rfl rfl rfl ?_
                      refine r_field_ptr rfl rfl rfl rfl rfl (by decide) ?_
                      refine r_load_ptr rfl rfl (by decide) rfl rfl rfl ?_
                      refine r_callLC [49, 175, 40, 180] (c_contents (d.yd (d.ms i.1).1.1) (d.am (d.ms i.1).1.2) (ms_small hd hi hP) (d.src (d.ms i.1).2) (d.day i.1) hsr.1 hsr.2) rfl (lendcs_cons (lendc_agg (lendcs_cons (lendc_of (lend_pub rfl rfl)) (lendcs_cons (lendc_of (lend_row rfl)) (lendcs_cons (lendc_of (lend_row rfl)) (lendcs_cons (lendc_of lend_nil) lendcs_nil))))) (lendcs_cons (lendc_agg (lendcs_cons (lendc_of (lend_row rfl)) (lendcs_cons (lendc_of (lend_row rfl)) lendcs_nil))) (lendcs_cons (lendc_of (lend_pub rfl rfl)) (lendcs_cons (lendc_of (lend_pub rfl rfl)) lendcs_nil)))) (by exact plain_int _ _) ?_
                      refine r_field_ptr rfl rfl rfl rfl rfl (by decide) ?_
                      refine r_load_ptr rfl rfl (by decide) rfl rfl rfl ?_
                      refine mvI rfl ?_
                      refine r_index_rowN rfl rfl rfl rfl rfl rfl (by omega) ?_
                      refine r_load_op rfl rfl rfl rfl ?_
                      refine r_sub rfl rfl (by omega) (by omega) ?_
                      refine r_min rfl rfl ?_
                      refine asI rfl ?_
                      refine r_nil ?_
                      refine ⟨by kernel_rfl, ?_⟩
                      refine i_block ?_
                      refine i_then ?_
                      refine t_region ?_
                      refine r_add rfl rfl (by omega) (by omega) ?_
                      refine mvI rfl ?_
                      refine r_nil ?_
                      refine i_round (⟨k.1 + 1, by omega⟩) ?_ (by show (d.ms i.1).1.1.length - (k.1 + 1) < (d.ms i.1).1.1.length - k.1; omega)
                      (refine Ent.mk' ?_ ?_ <;> (repeat' (first | exact allSub_zero | exact allTags_nil | refine allSub_succ' ?_ (Ty.sub_any _) | refine allSub_succ' ?_ (Ty.sub_refl _) | refine allTags_cons rfl (Cont.sub_refl _) ?_ | refine allSub_succ' ?_ ?_)))
                      all_goals skip
                      all_goals exact Ty.sub_int (l3_yes (y := (d.yd (d.ms i.1).1.1)) (a := (d.am (d.ms i.1).1.2)) (m := (d.mv (d.ms i.1).2 i.1)) hc7)
                    ·
                      refine t_skip ?_
                      refine i_block ?_
                      refine i_then ?_
                      refine t_region ?_
                      refine r_add rfl rfl (by omega) (by omega) ?_
                      refine mvI rfl ?_
                      refine r_nil ?_
                      refine i_round (⟨k.1 + 1, by omega⟩) ?_ (by show (d.ms i.1).1.1.length - (k.1 + 1) < (d.ms i.1).1.1.length - k.1; omega)
                      (refine Ent.mk' ?_ ?_ <;> (repeat' (first | exact allSub_zero | exact allTags_nil | refine allSub_succ' ?_ (Ty.sub_any _) | refine allSub_succ' ?_ (Ty.sub_refl _) | refine allTags_cons rfl (Cont.sub_refl _) ?_ | refine allSub_succ' ?_ ?_)))
                      all_goals skip
                      all_goals exact Ty.sub_int (l3_no (y := (d.yd (d.ms i.1).1.1)) (a := (d.am (d.ms i.1).1.2)) (m := (d.mv (d.ms i.1).2 i.1)) hc7)
                  ·
                    refine t_exit ?_
                    refine i_then_exit ?_
                    refine i_then_exit ?_
                    refine i_block_exit rfl ?_
                    refine i_then ?_
                    refine t_seq ?_
                    obtain ⟨k, hk⟩ := k
                    obtain rfl : k = (d.ms i.1).1.1.length := by have h1 : ¬ (k : Int) < ((d.ms i.1).1.1.length : Int) := hc6; have h2 : k ≤ (d.ms i.1).1.1.length := hk; omega
                    refine t_forget (B := live [(0, Ty.ptr 1000 0), (4, Ty.int .i64 d.levels), (10, Ty.ptr 11 0), (11, Ty.ptr 12 0), (12, Ty.ptr 13 0), (13, Ty.ptr 14 0), (15, Ty.int .i64 (d.many : Nat)), (56, Ty.int .i64 (d.many : Nat)), (57, Ty.int .i64 (i.1 : Nat)), (17, Ty.ptr 18 0), (18, Ty.int .i64 (less3 (d.yd (d.ms i.1).1.1) (d.am (d.ms i.1).1.2) (d.mv (d.ms i.1).2 i.1) (less2 (d.yd (d.ms i.1).1.1) (d.am (d.ms i.1).1.2) (d.mv (d.ms i.1).2 i.1) (less1 (d.yd (d.ms i.1).1.1) (d.am (d.ms i.1).1.2) (d.mv (d.ms i.1).2 i.1) (skBelow (d.skM (d.ms i.1).2) 40))) (d.yd (d.ms i.1).1.1).moves.length))] [(11, Cont.cells 27 [Ty.int .i64 0, Ty.ex (.slice none 0 0), Ty.ex (.slice none 0 0), Ty.ex (.slice none 0 0)]), (12, Cont.cells 30 [Ty.ex (.slice none 0 0), Ty.ex (.slice none 0 0)]), (13, Cont.cells 27 [Ty.int .i64 d.D, Ty.row BinE 39 49 d.bins0, Ty.row MoveE 41 175 (d.ms i.1).1.1, Ty.ex (.slice none 0 0)]), (14, Cont.cells 30 [Ty.row I64 3 40 d.first, Ty.row I64 3 180 (d.ms i.1).1.2]), (18, Cont.cells 41 [Ty.int .i64 (d.day i.1), Ty.int .i64 (d.src (d.ms i.1).2), Ty.int .i64 (d.dst (d.ms i.1).2), Ty.int .i64 0, Ty.int .i64 0]), (1000, Cont.cells 149 (skTys (skNext (d.skM (d.ms i.1).2))))]) ?_ ?_
                    · (refine Ent.mk' ?_ ?_ <;> (repeat' (first | exact allSub_zero | exact allTags_nil | refine allSub_succ' ?_ (Ty.sub_any _) | refine allSub_succ' ?_ (Ty.sub_refl _) | refine allTags_cons rfl (Cont.sub_refl _) ?_)))
                    refine t_region ?_
                    refine mvI rfl ?_
                    refine r_load_ptrN rfl rfl (by decide) rfl rfl (by exact Nat.le_of_ble_eq_true rfl) ?_
                    refine r_load_ptrN rfl rfl (by decide) rfl rfl (by exact Nat.le_of_ble_eq_true rfl) ?_
                    refine r_load_ptrN rfl rfl (by decide) rfl rfl (by exact Nat.le_of_ble_eq_true rfl) ?_
                    refine r_callLC [49, 175, 40, 180] (c_leftL (d.yd (d.ms i.1).1.1) (d.am (d.ms i.1).1.2) (ms_small hd hi hP) (d.mv (d.ms i.1).2 i.1) (by show -1000000 ≤ d.day i.1 ∧ d.day i.1 ≤ 1000000; omega) (fun g => src_ne hd g b1)) rfl (lendcs_cons (lendc_agg (lendcs_cons (lendc_of (lend_pub rfl rfl)) (lendcs_cons (lendc_of (lend_row rfl)) (lendcs_cons (lendc_of (lend_row rfl)) (lendcs_cons (lendc_of lend_nil) lendcs_nil))))) (lendcs_cons (lendc_agg (lendcs_cons (lendc_of (lend_row rfl)) (lendcs_cons (lendc_of (lend_row rfl)) lendcs_nil))) (lendcs_cons (lendc_of (lend_pub rfl rfl)) lendcs_nil))) (by exact plain_int _ _) ?_
                    refine r_min rfl rfl ?_
                    refine r_max rfl rfl ?_
                    refine asI rfl ?_
                    refine r_nil ?_
                    refine i_then ?_
                    refine t_seq ?_
                    have hnm := d.num_ok hd hP
                    refine t_as (s := 18) rfl (Ty.sub_int (num_eq d (d.ms i.1) i.1)) ?_
                    refine t_forget (B := live [(0, Ty.ptr 1000 0), (4, Ty.int .i64 d.levels), (10, Ty.ptr 11 0), (11, Ty.ptr 12 0), (12, Ty.ptr 13 0), (13, Ty.ptr 14 0), (15, Ty.int .i64 (d.many : Nat)), (56, Ty.int .i64 (d.many : Nat)), (57, Ty.int .i64 (i.1 : Nat)), (17, Ty.ptr 18 0), (18, Ty.int .i64 (d.num (d.ms i.1) i.1))] [(11, Cont.cells 27 [Ty.int .i64 0, Ty.ex (.slice none 0 0), Ty.ex (.slice none 0 0), Ty.ex (.slice none 0 0)]), (12, Cont.cells 30 [Ty.ex (.slice none 0 0), Ty.ex (.slice none 0 0)]), (13, Cont.cells 27 [Ty.int .i64 d.D, Ty.row BinE 39 49 d.bins0, Ty.row MoveE 41 175 (d.ms i.1).1.1, Ty.ex (.slice none 0 0)]), (14, Cont.cells 30 [Ty.row I64 3 40 d.first, Ty.row I64 3 180 (d.ms i.1).1.2]), (18, Cont.cells 41 [Ty.int .i64 (d.day i.1), Ty.int .i64 (d.src (d.ms i.1).2), Ty.int .i64 (d.dst (d.ms i.1).2), Ty.int .i64 0, Ty.int .i64 0]), (1000, Cont.cells 149 (skTys (skNext (d.skM (d.ms i.1).2))))]) ?_ ?_
                    · (refine Ent.mk' ?_ ?_ <;> (repeat' (first | exact allSub_zero | exact allTags_nil | refine allSub_succ' ?_ (Ty.sub_any _) | refine allSub_succ' ?_ (Ty.sub_refl _) | refine allTags_cons rfl (Cont.sub_refl _) ?_)))
                    refine t_region ?_
                    refine mvO rfl ?_
                    refine mvI rfl ?_
                    refine r_callG [(1000, 1000)] [] [(1000, Cont.cells 149 (skTys (skNext (skNext (skNext (d.skM (d.ms i.1).2))))))] (c_near (skNext (d.skM (d.ms i.1).2)) ⟨by omega, by omega⟩ (d.num (d.ms i.1) i.1) 15 (by omega) (by omega)) rfl rfl (by repeat (first | exact cv_nil | refine cv_cons ?_ ?_ | exact cv_ptr List.mem_cons_self | exact cv_pub rfl rfl)) (pre_cons (a := 1000) (b := 1000) (by exact List.mem_cons_self) rfl (cc_cells_eq (by exact List.mem_cons_self) rfl rfl rfl) pre_nil) (post_cons (a := 1000) (b := 1000) (by exact List.mem_cons_self) rfl (cc_cells_eq (by exact List.mem_cons_self) rfl rfl rfl) post_nil) (cv_pub rfl rfl) ?_
                    refine r_field_ptr rfl rfl rfl rfl rfl (by decide) ?_
                    refine r_storeNo (lr := MoveE.tys (d.full (d.ms i.1) i.1)) rfl rfl (by decide) rfl rfl rfl (by exact Nat.le_of_ble_eq_true rfl) rfl rfl rfl ?_
                    refine r_nil ?_
                    refine i_then ?_
                    refine t_forget (B := live [(0, Ty.ptr 1000 0), (4, Ty.int .i64 d.levels), (10, Ty.ptr 11 0), (11, Ty.ptr 12 0), (12, Ty.ptr 13 0), (13, Ty.ptr 14 0), (15, Ty.int .i64 (d.many : Nat)), (56, Ty.int .i64 (d.many : Nat)), (57, Ty.int .i64 (i.1 : Nat)), (17, Ty.ptr 18 0), (18, Ty.int .i64 (d.num (d.ms i.1) i.1))] [(11, Cont.cells 27 [Ty.int .i64 0, Ty.ex (.slice none 0 0), Ty.ex (.slice none 0 0), Ty.ex (.slice none 0 0)]), (12, Cont.cells 30 [Ty.ex (.slice none 0 0), Ty.ex (.slice none 0 0)]), (13, Cont.cells 27 [Ty.int .i64 d.D, Ty.row BinE 39 49 d.bins0, Ty.row MoveE 41 175 (d.ms i.1).1.1, Ty.ex (.slice none 0 0)]), (14, Cont.cells 30 [Ty.row I64 3 40 d.first, Ty.row I64 3 180 (d.ms i.1).1.2]), (18, Cont.cells 41 (MoveE.tys (d.full (d.ms i.1) i.1))), (1000, Cont.cells 149 (skTys (skNext (skNext (skNext (d.skM (d.ms i.1).2))))))]) ?_ ?_
                    · (refine Ent.mk' ?_ ?_ <;> (repeat' (first | exact allSub_zero | exact allTags_nil | refine allSub_succ' ?_ (Ty.sub_any _) | refine allSub_succ' ?_ (Ty.sub_refl _) | refine allTags_cons rfl (Cont.sub_refl _) ?_)))
                    refine t_draw mixed rfl ?_
                    refine r_field_ptr rfl rfl rfl rfl rfl (by decide) ?_
                    refine r_load_ptr rfl rfl (by decide) rfl rfl rfl ?_
                    refine r_load_ptrN rfl rfl (by decide) rfl rfl (by exact Nat.le_of_ble_eq_true rfl) ?_
                    refine r_buildSlice (E := MoveE) (xs := [d.full (d.ms i.1) i.1]) rfl rfl rfl rfl rfl (by decide) (by decide) (by repeat (first | exact (Parts.nil : Parts _ _ [] _) | (show Parts _ _ ((_, _) :: _) _; apply Parts.agg; (· exact (rfl : _ = Ty.agg _))))) (by exact rfl) rfl ?_
                    refine r_append rfl rfl (by decide) rfl rfl rfl rfl rfl rfl (by decide) (by (simp <;> omega)) (by (simp <;> omega)) ?_
                    refine r_field_ptr rfl rfl rfl rfl rfl (by decide) ?_
                    refine r_load_ptr rfl rfl (by decide) rfl rfl rfl ?_
                    refine mvI rfl ?_
                    refine r_buildSlice (E := I64) (xs := [d.num (d.ms i.1) i.1]) rfl rfl rfl rfl rfl (by decide) (by decide) (by repeat (first | exact (Parts.nil : Parts _ _ [] _) | (show Parts _ _ ((_, _) :: _) _; apply Parts.one; (· exact (rfl : _ = Ty.int _ _)); (· exact rfl)))) (by exact rfl) rfl ?_
                    refine r_append rfl rfl (by decide) rfl rfl rfl rfl rfl rfl (by decide) (by (simp <;> omega)) (by (simp <;> omega)) ?_
                    refine r_field_ptr rfl rfl rfl rfl rfl (by decide) ?_
                    refine r_store1 rfl rfl (by decide) rfl rfl (by exact (rfl : _ = Ty.row _ _ _ _)) rfl (by exact Nat.le_of_ble_eq_true rfl) rfl rfl (by exact rfl) ?_
                    refine r_field_ptr rfl rfl rfl rfl rfl (by decide) ?_
                    refine r_store1 rfl rfl (by decide) rfl rfl (by exact (rfl : _ = Ty.row _ _ _ _)) rfl (by exact Nat.le_of_ble_eq_true rfl) rfl rfl (by exact rfl) ?_
                    refine r_nil ?_
                    refine ⟨by kernel_rfl, ?_⟩
                    refine i_block ?_
                    refine i_then ?_
                    refine t_region ?_
                    refine r_add rfl rfl (by omega) (by omega) ?_
                    refine mvI rfl ?_
                    refine r_nil ?_
                    refine i_round (⟨i.1 + 1, by omega⟩) ?_ (by show d.many - (i.1 + 1) < d.many - i.1; omega)
                    (refine Ent.mk' ?_ ?_ <;> (repeat' (first | exact allSub_zero | exact allTags_nil | exact subs_nil | refine allSub_succ' ?_ (Ty.sub_any _) | refine allSub_succ' ?_ (Ty.sub_refl _) | refine allTags_cons rfl (Cont.sub_refl _) ?_ | refine allTags_cons rfl (Cont.sub_subs ?_) ?_ | refine subs_cons ?_ (Ty.sub_refl _) | refine subs_cons ?_ ?_)))
                    all_goals skip
                    all_goals first | exact Ty.sub_int (congrArg (fun p => p.2.mixed) (ms_s d _)) | exact Ty.sub_int (congrArg (fun p => p.2.taken) (ms_s d _)) | exact Ty.sub_sl (congrArg (fun p => p.2.grain) (ms_s d _)) | exact Ty.sub_row (congrArg (fun p => p.1.1) (ms_s d _)) | exact Ty.sub_row (congrArg (fun p => p.1.2) (ms_s d _))
        ·
          refine t_exit ?_
          refine i_then_exit ?_
          refine i_then_exit ?_
          refine i_block_exit rfl ?_
          refine i_then ?_
          refine t_seq ?_
          refine t_seq ?_
          obtain ⟨i, hi⟩ := i
          obtain rfl : i = d.many := by have h1 : ¬ (i : Int) < (d.many : Int) := hc2; have h2 : i ≤ d.many := hi; omega
          have hP := d.ms_ok hd d.many (Nat.le_refl _)
          have e3 := hP.taken
          refine t_asC (tg := 13) rfl (Cont.sub_cellsL (l' := [Ty.int .i64 d.D, Ty.row BinE 39 49 d.bins0, Ty.row MoveE 41 175 d.moves0, Ty.ex (.slice none 0 0)]) ⟨Ty.sub_refl _, Ty.sub_refl _, Ty.sub_row (by unfold Md.moves0; rfl), Ty.sub_refl _, trivial⟩) ?_
          refine t_asC (tg := 14) rfl (Cont.sub_cellsL (l' := [Ty.row I64 3 40 d.first, Ty.row I64 3 180 d.moved]) ⟨Ty.sub_refl _, Ty.sub_row (by unfold Md.moved; rfl), trivial⟩) ?_
          refine t_pubC (tg := 175) [] [(13, Cont.cells 27 [Ty.int .i64 d.D, Ty.row BinE 39 49 d.bins0, Ty.sl MoveE d.moves0, Ty.ex (.slice none 0 0)])] (by decide) rfl trivial ⟨pubC_cells rfl rfl ⟨pubTy_same rfl, pubTy_same rfl, pubTy_row, pubTy_same rfl, trivial⟩, trivial⟩ ?_
          refine t_pubC (tg := 40) [] [(14, Cont.cells 30 [Ty.sl I64 d.first, Ty.row I64 3 180 d.moved])] (by decide) rfl trivial ⟨pubC_cells rfl rfl ⟨pubTy_row, pubTy_same rfl, trivial⟩, trivial⟩ ?_
          refine t_pubC (tg := 180) [] [(14, Cont.cells 30 [Ty.sl I64 d.first, Ty.sl I64 d.moved])] (by decide) rfl trivial ⟨pubC_cells rfl rfl ⟨pubTy_same rfl, pubTy_row, trivial⟩, trivial⟩ ?_
          refine t_ownCell (c0 := 13) 1 rfl rfl ?_
          refine t_asC (tg := 13) rfl (Cont.sub_cellsL (l' := [Ty.int .i64 d.D, Ty.vs 49 d.nb, Ty.sl MoveE d.moves0, Ty.ex (.slice none 0 0)]) ⟨Ty.sub_refl _, row_vsN b2, Ty.sub_refl _, Ty.sub_refl _, trivial⟩) ?_
          refine t_forget (B := live [(0, Ty.ptr 1000 0), (4, Ty.int .i64 d.levels), (10, Ty.ptr 11 0), (11, Ty.ptr 12 0), (12, Ty.ptr 13 0), (13, Ty.ptr 14 0)] [(11, Cont.cells 27 [Ty.int .i64 0, Ty.ex (.slice none 0 0), Ty.ex (.slice none 0 0), Ty.ex (.slice none 0 0)]), (12, Cont.cells 30 [Ty.ex (.slice none 0 0), Ty.ex (.slice none 0 0)]), (13, Cont.cells 27 [Ty.int .i64 d.D, Ty.vs 49 d.nb, Ty.sl MoveE d.moves0, Ty.ex (.slice none 0 0)]), (14, Cont.cells 30 [Ty.sl I64 d.first, Ty.sl I64 d.moved]), (49, Cont.vec BinE 39 d.bins0), (1000, Cont.cells 149 (skTys (d.ms d.many).2))]) ?_ ?_
          · (refine Ent.mk' ?_ ?_ <;> (repeat' (first | exact allSub_zero | exact allTags_nil | refine allSub_succ' ?_ (Ty.sub_any _) | refine allSub_succ' ?_ (Ty.sub_refl _) | refine allTags_cons rfl (Cont.sub_refl _) ?_)))
          refine t_region ?_
          refine r_field_ptr rfl rfl rfl rfl rfl (by decide) ?_
          refine r_load_ptr rfl rfl (by decide) rfl rfl rfl ?_
          refine r_len_vs rfl rfl rfl ?_
          refine mvI rfl ?_
          refine r_nil ?_
          refine i_then ?_
          refine t_block ?_
          refine t_loop (fun (k : {k : Nat // k ≤ d.nb}) => live [(0, Ty.ptr 1000 0), (4, Ty.int .i64 d.levels), (10, Ty.ptr 11 0), (11, Ty.ptr 12 0), (12, Ty.ptr 13 0), (13, Ty.ptr 14 0), (186, Ty.int .i64 (d.nb : Nat)), (187, Ty.int .i64 (k.1 : Nat))] [(11, Cont.cells 27 [Ty.int .i64 0, Ty.ex (.slice none 0 0), Ty.ex (.slice none 0 0), Ty.ex (.slice none 0 0)]), (12, Cont.cells 30 [Ty.ex (.slice none 0 0), Ty.ex (.slice none 0 0)]), (13, Cont.cells 27 [Ty.int .i64 d.D, Ty.vs 49 d.nb, Ty.sl MoveE d.moves0, Ty.ex (.slice none 0 0)]), (14, Cont.cells 30 [Ty.sl I64 d.first, Ty.sl I64 d.moved]), (49, Cont.vec BinE 39 (d.hs k.1).1), (1000, Cont.cells 149 (skTys (d.hs k.1).2))]) (fun k => d.nb - k.1) (⟨0, by omega⟩) ?_ fun k => ?_
          · (refine Ent.mk' ?_ ?_ <;> (repeat' (first | exact allSub_zero | exact allTags_nil | exact subs_nil | refine allSub_succ' ?_ (Ty.sub_any _) | refine allSub_succ' ?_ (Ty.sub_refl _) | refine allTags_cons rfl (Cont.sub_refl _) ?_ | refine allTags_cons rfl (Cont.sub_subs ?_) ?_ | refine subs_cons ?_ ?_ | refine allTags_cons rfl ?_ ?_)))
            all_goals first | exact Cont.sub_vec (congrArg Prod.fst (hs_z d)) | exact Ty.sub_int (congrArg (fun p => p.2.mixed) (hs_z d)) | exact Ty.sub_int (congrArg (fun p => p.2.taken) (hs_z d)) | exact Ty.sub_sl (congrArg (fun p => p.2.grain) (hs_z d))
          ·
            have hk := k.2
            have H := d.hs_ok k.1 hk
            have g1 := H.len
            have g2 := H.taken
            have g3 := skBelow_bound (d.hs k.1).2 30
            have g4 := (d.most_ok k.1 (d.D + 1).toNat)
            have g40 := g4.1
            refine t_seq ?_
            refine t_region ?_
            refine r_bin rfl rfl rfl ?_
            refine r_nil ?_
            refine i_then ?_
            refine t_seq ?_
            refine t_cond_dec rfl (fun hc8 => ?_) (fun hc8 => ?_)
            ·
              refine t_skip ?_
              refine i_then ?_
              refine t_seq ?_
              refine t_block ?_
              refine t_seq ?_
              refine t_region ?_
              refine mvI rfl ?_
              refine asI rfl ?_
              refine r_nil ?_
              refine i_then ?_
              refine t_seq ?_
              refine t_region ?_
              refine asI rfl ?_
              refine r_nil ?_
              refine i_then ?_
              refine t_seq ?_
              refine t_seq ?_
              refine t_region ?_
              refine r_field_ptr rfl rfl rfl rfl rfl (by decide) ?_
              refine r_load_ptr rfl rfl (by decide) rfl rfl rfl ?_
              refine r_add rfl rfl (by omega) (by omega) ?_
              refine mvI rfl ?_
              refine r_nil ?_
              refine i_then ?_
              refine t_block ?_
              refine t_loop (fun (t : {t : Nat // t ≤ (d.D + 1).toNat}) => live [(0, Ty.ptr 1000 0), (4, Ty.int .i64 d.levels), (10, Ty.ptr 11 0), (11, Ty.ptr 12 0), (12, Ty.ptr 13 0), (13, Ty.ptr 14 0), (21, Ty.int .i64 (k.1 : Nat)), (22, Ty.int .i64 (d.most k.1 t.1)), (186, Ty.int .i64 (d.nb : Nat)), (187, Ty.int .i64 (k.1 : Nat)), (192, Ty.int .i64 (d.D + 1)), (193, Ty.int .i64 (t.1 : Nat))] [(11, Cont.cells 27 [Ty.int .i64 0, Ty.ex (.slice none 0 0), Ty.ex (.slice none 0 0), Ty.ex (.slice none 0 0)]), (12, Cont.cells 30 [Ty.ex (.slice none 0 0), Ty.ex (.slice none 0 0)]), (13, Cont.cells 27 [Ty.int .i64 d.D, Ty.vs 49 d.nb, Ty.sl MoveE d.moves0, Ty.ex (.slice none 0 0)]), (14, Cont.cells 30 [Ty.sl I64 d.first, Ty.sl I64 d.moved]), (49, Cont.vec BinE 39 (d.hs k.1).1), (1000, Cont.cells 149 (skTys (d.hs k.1).2))]) (fun t => (d.D + 1).toNat - t.1) (⟨0, by omega⟩) ?_ fun t => ?_
              · (refine Ent.mk' ?_ ?_ <;> (repeat' (first | exact allSub_zero | exact allTags_nil | refine allSub_succ' ?_ (Ty.sub_any _) | refine allSub_succ' ?_ (Ty.sub_refl _) | refine allTags_cons rfl (Cont.sub_refl _) ?_ | refine allSub_succ' ?_ ?_)))
                all_goals exact Ty.sub_int (most_z d _)
              ·
                have ht := t.2
                refine t_seq ?_
                refine t_region ?_
                refine r_bin rfl rfl rfl ?_
                refine r_nil ?_
                refine i_then ?_
                refine t_seq ?_
                refine t_cond_dec rfl (fun hc9 => ?_) (fun hc9 => ?_)
                ·
                  refine t_skip ?_
                  refine i_then ?_
                  refine t_seq ?_
                  refine t_block ?_
                  refine t_seq ?_
                  refine t_region ?_
                  refine mvI rfl ?_
                  refine asI rfl ?_
                  refine r_nil ?_
                  refine i_then ?_
                  refine t_region ?_
                  refine mvI rfl ?_
                  refine r_load_ptrN rfl rfl (by decide) rfl rfl (by exact Nat.le_of_ble_eq_true rfl) ?_
                  refine r_load_ptrN rfl rfl (by decide) rfl rfl (by exact Nat.le_of_ble_eq_true rfl) ?_
                  refine mvI rfl ?_
                  refine mvI rfl ?_
                  refine r_callLC [49] (c_contents ⟨d.D, (d.hs k.1).1, d.moves0, []⟩ d.real (real_small hd) ((k.1 : Nat) : Int) ((t.1 : Nat) : Int) (Int.natCast_nonneg _) (by show ((k.1 : Nat) : Int).toNat < d.first.length; omega)) rfl (lendcs_cons (lendc_agg (lendcs_cons (lendc_of (lend_pub rfl rfl)) (lendcs_cons (lendc_vs rfl g1 (by decide) rfl) (lendcs_cons (lendc_of (lend_pub rfl rfl)) (lendcs_cons (lendc_of lend_nil) lendcs_nil))))) (lendcs_cons (lendc_of (lend_pub rfl rfl)) (lendcs_cons (lendc_of (lend_pub rfl rfl)) (lendcs_cons (lendc_of (lend_pub rfl rfl)) lendcs_nil)))) (by exact plain_int _ _) ?_
                  refine r_max rfl rfl ?_
                  refine asI rfl ?_
                  refine r_nil ?_
                  refine i_block ?_
                  refine i_then ?_
                  refine t_region ?_
                  refine r_add rfl rfl (by omega) (by omega) ?_
                  refine mvI rfl ?_
                  refine r_nil ?_
                  refine i_round (⟨t.1 + 1, by omega⟩) ?_ (by show (d.D + 1).toNat - (t.1 + 1) < (d.D + 1).toNat - t.1; omega)
                  (refine Ent.mk' ?_ ?_ <;> (repeat' (first | exact allSub_zero | exact allTags_nil | refine allSub_succ' ?_ (Ty.sub_any _) | refine allSub_succ' ?_ (Ty.sub_refl _) | refine allTags_cons rfl (Cont.sub_refl _) ?_ | refine allSub_succ' ?_ ?_)))
                  all_goals skip
                  all_goals exact Ty.sub_int (most_s d _ _)
                ·
                  refine t_exit ?_
                  refine i_then_exit ?_
                  refine i_then_exit ?_
                  refine i_block_exit rfl ?_
                  refine i_then ?_
                  obtain ⟨t, ht⟩ := t
                  obtain rfl : t = (d.D + 1).toNat := by have h1 : ¬ (t : Int) < d.D + 1 := hc9; have h2 : t ≤ (d.D + 1).toNat := ht; omega
                  refine t_as (s := 22) rfl (Ty.sub_int (show d.most k.1 (d.D + 1).toNat = d.most k.1 (d.D + 1).toNat from rfl)) ?_
                  have g5 := g4.2.2 fun t => (d.cont_in hd k.1 t (by omega)).2
                  refine t_draw mixed rfl ?_
                  refine r_field_ptr rfl rfl rfl rfl rfl (by decide) ?_
                  refine r_load_ptr rfl rfl (by decide) rfl rfl rfl ?_
                  refine mvI rfl ?_
                  refine mvI rfl ?_
                  refine mvO rfl ?_
                  refine r_callG [(1000, 1000)] [] [(1000, Cont.cells 149 (skTys (skNext (d.hs k.1).2)))] (c_Below (d.hs k.1).2 ⟨by omega, by omega⟩ 30) rfl rfl (by repeat (first | exact cv_nil | refine cv_cons ?_ ?_ | exact cv_ptr List.mem_cons_self | exact cv_pub rfl rfl)) (pre_cons (a := 1000) (b := 1000) (by exact List.mem_cons_self) rfl (cc_cells_eq (by exact List.mem_cons_self) rfl rfl rfl) pre_nil) (post_cons (a := 1000) (b := 1000) (by exact List.mem_cons_self) rfl (cc_cells_eq (by exact List.mem_cons_self) rfl rfl rfl) post_nil) (cv_pub rfl rfl) ?_
                  refine r_add rfl rfl (by omega) (by omega) ?_
                  refine r_min rfl rfl ?_
                  refine r_index_vs rfl rfl rfl rfl rfl (by omega) ?_
                  refine r_field_ptr rfl rfl rfl rfl rfl (by decide) ?_
                  refine r_store_vecC (E := BinE) (z := ⟨min 300 (d.most k.1 (d.D + 1).toNat + skBelow (d.hs k.1).2 30), (nth (d.hs k.1).1 k.1).first⟩) rfl rfl rfl (by decide) rfl rfl (by exact (rfl : _ = Ty.int _ _)) rfl (by omega) (by decide) rfl rfl ?_
                  refine r_nil ?_
                  refine ⟨by kernel_rfl, ?_⟩
                  refine i_block ?_
                  refine i_then ?_
                  refine t_region ?_
                  refine r_add rfl rfl (by omega) (by omega) ?_
                  refine mvI rfl ?_
                  refine r_nil ?_
                  refine i_round (⟨k.1 + 1, by omega⟩) ?_ (by show d.nb - (k.1 + 1) < d.nb - k.1; omega)
                  (refine Ent.mk' ?_ ?_ <;> (repeat' (first | exact allSub_zero | exact allTags_nil | exact subs_nil | refine allSub_succ' ?_ (Ty.sub_any _) | refine allSub_succ' ?_ (Ty.sub_refl _) | refine allTags_cons rfl (Cont.sub_refl _) ?_ | refine allTags_cons rfl (Cont.sub_subs ?_) ?_ | refine subs_cons ?_ ?_ | refine allTags_cons rfl ?_ ?_)))
                  all_goals skip
                  all_goals first | exact Cont.sub_vec (congrArg Prod.fst (hs_s d _)) | exact Ty.sub_int (congrArg (fun p => p.2.mixed) (hs_s d _)) | exact Ty.sub_int (congrArg (fun p => p.2.taken) (hs_s d _)) | exact Ty.sub_sl (congrArg (fun p => p.2.grain) (hs_s d _))
            ·
              refine t_exit ?_
              refine i_then_exit ?_
              refine i_then_exit ?_
              refine i_block_exit rfl ?_
              refine i_then ?_
              refine t_seq ?_
              refine t_seq ?_
              obtain ⟨k, hk⟩ := k
              obtain rfl : k = d.nb := by have h1 : ¬ (k : Int) < (d.nb : Int) := hc8; have h2 : k ≤ d.nb := hk; omega
              have H := d.hs_ok d.nb (Nat.le_refl _)
              have g1 := H.len
              have g2 := H.taken
              have b5 : d.bins1.length = d.nb := by unfold Md.bins1; exact g1
              have g6 := skNext_taken (d.hs d.nb).2
              refine t_asC (tg := 49) rfl (Cont.sub_vec (show (d.hs d.nb).1 = d.bins1 by unfold Md.bins1; rfl)) ?_
              refine t_pubC (tg := 49) [] [(13, Cont.cells 27 [Ty.int .i64 d.D, Ty.sl BinE d.bins1, Ty.sl MoveE d.moves0, Ty.ex (.slice none 0 0)])] (by decide) rfl trivial ⟨pubC_cells rfl rfl ⟨pubTy_same rfl, pubTy_vs rfl b5 (by decide), pubTy_same rfl, pubTy_same rfl, trivial⟩, trivial⟩ ?_
              refine t_forget (B := live [(0, Ty.ptr 1000 0), (4, Ty.int .i64 d.levels), (10, Ty.ptr 11 0), (11, Ty.ptr 12 0), (12, Ty.ptr 13 0), (13, Ty.ptr 14 0)] [(11, Cont.cells 27 [Ty.int .i64 0, Ty.ex (.slice none 0 0), Ty.ex (.slice none 0 0), Ty.ex (.slice none 0 0)]), (12, Cont.cells 30 [Ty.ex (.slice none 0 0), Ty.ex (.slice none 0 0)]), (13, Cont.cells 27 [Ty.int .i64 d.D, Ty.sl BinE d.bins1, Ty.sl MoveE d.moves0, Ty.ex (.slice none 0 0)]), (14, Cont.cells 30 [Ty.sl I64 d.first, Ty.sl I64 d.moved]), (1000, Cont.cells 149 (skTys (d.hs d.nb).2))]) ?_ ?_
              · (refine Ent.mk' ?_ ?_ <;> (repeat' (first | exact allSub_zero | exact allTags_nil | refine allSub_succ' ?_ (Ty.sub_any _) | refine allSub_succ' ?_ (Ty.sub_refl _) | refine allTags_cons rfl (Cont.sub_refl _) ?_)))
              refine t_region ?_
              refine mvO rfl ?_
              refine mvI rfl ?_
              refine r_add rfl rfl (by omega) (by omega) ?_
              refine r_callG [(1000, 1000)] [] [(1000, Cont.cells 149 (skTys (skNext (d.hs d.nb).2)))] (c_Below (d.hs d.nb).2 ⟨by omega, by omega⟩ _) rfl rfl (by repeat (first | exact cv_nil | refine cv_cons ?_ ?_ | exact cv_ptr List.mem_cons_self | exact cv_pub rfl rfl)) (pre_cons (a := 1000) (b := 1000) (by exact List.mem_cons_self) rfl (cc_cells_eq (by exact List.mem_cons_self) rfl rfl rfl) pre_nil) (post_cons (a := 1000) (b := 1000) (by exact List.mem_cons_self) rfl (cc_cells_eq (by exact List.mem_cons_self) rfl rfl rfl) post_nil) (cv_pub rfl rfl) ?_
              refine mvI rfl ?_
              refine r_nil ?_
              refine i_then ?_
              refine t_as (s := 218) rfl (Ty.sub_int (show skBelow (d.hs d.nb).2 (d.levels + 1) = ((d.nl : Nat) : Int) from hnl.2 ▸ (by unfold Md.nlI; rfl))) ?_
              refine t_block ?_
              refine t_loop (fun (k : {k : Nat // k ≤ d.nl}) => live [(0, Ty.ptr 1000 0), (10, Ty.ptr 11 0), (11, Ty.ptr 12 0), (12, Ty.ptr 13 0), (13, Ty.ptr 14 0), (218, Ty.int .i64 (d.nl : Nat)), (219, Ty.int .i64 (k.1 : Nat))] [(11, Cont.cells 27 [Ty.int .i64 0, Ty.ex (.slice none 0 0), Ty.ex (.slice none 0 0), Ty.ex (.slice none 0 0)]), (12, Cont.cells 30 [Ty.ex (.slice none 0 0), Ty.ex (.slice none 0 0)]), (13, Cont.cells 27 [Ty.int .i64 d.D, Ty.sl BinE d.bins1, Ty.sl MoveE d.moves0, Ty.row LevelE 102 246 (d.ls k.1).1]), (14, Cont.cells 30 [Ty.sl I64 d.first, Ty.sl I64 d.moved]), (1000, Cont.cells 149 (skTys (d.ls k.1).2))]) (fun k => d.nl - k.1) (⟨0, by omega⟩) ?_ fun k => ?_
              · (refine Ent.mk' ?_ ?_ <;> (repeat' (first | exact allSub_zero | exact allTags_nil | exact subs_nil | refine allSub_succ' ?_ (Ty.sub_any _) | refine allSub_succ' ?_ (Ty.sub_refl _) | refine allTags_cons rfl (Cont.sub_refl _) ?_ | refine allTags_cons rfl (Cont.sub_subs ?_) ?_ | refine subs_cons ?_ (Ty.sub_refl _) | refine subs_cons ?_ ?_)))
                all_goals first | exact Ty.sub_int (congrArg (fun p => p.2.mixed) (ls_z d)) | exact Ty.sub_int (congrArg (fun p => p.2.taken) (ls_z d)) | exact Ty.sub_sl (congrArg (fun p => p.2.grain) (ls_z d)) | exact nil_row_eq (congrArg Prod.fst (ls_z d)).symm
              ·
                have hk := k.2
                have L := d.ls_ok hd k.1
                have f1 := L.len
                have f2 := L.taken
                have f3 := skNext_taken (d.ls k.1).2
                have f4 := skNext_taken (skNext (d.ls k.1).2)
                have f5 := skBelow_bound (d.ls k.1).2 (d.D + 1)
                have f6 := skBelow_bound (skNext (d.ls k.1).2) d.nb
                refine t_seq ?_
                refine t_region ?_
                refine r_bin rfl rfl rfl ?_
                refine r_nil ?_
                refine i_then ?_
                refine t_seq ?_
                refine t_cond_dec rfl (fun hc10 => ?_) (fun hc10 => ?_)
                ·
                  refine t_skip ?_
                  refine i_then ?_
                  refine t_seq ?_
                  refine t_block ?_
                  refine t_seq ?_
                  refine t_draw mixed rfl ?_
                  refine mvO rfl ?_
                  refine r_field_ptr rfl rfl rfl rfl rfl (by decide) ?_
                  refine r_load_ptr rfl rfl (by decide) rfl rfl rfl ?_
                  refine r_add rfl rfl (by omega) (by omega) ?_
                  refine r_callG [(1000, 1000)] [] [(1000, Cont.cells 149 (skTys (skNext (d.ls k.1).2)))] (c_Below (d.ls k.1).2 ⟨by omega, by omega⟩ _) rfl rfl (by repeat (first | exact cv_nil | refine cv_cons ?_ ?_ | exact cv_ptr List.mem_cons_self | exact cv_pub rfl rfl)) (pre_cons (a := 1000) (b := 1000) (by exact List.mem_cons_self) rfl (cc_cells_eq (by exact List.mem_cons_self) rfl rfl rfl) pre_nil) (post_cons (a := 1000) (b := 1000) (by exact List.mem_cons_self) rfl (cc_cells_eq (by exact List.mem_cons_self) rfl rfl rfl) post_nil) (cv_pub rfl rfl) ?_
                  refine mvO rfl ?_
                  refine r_field_ptr rfl rfl rfl rfl rfl (by decide) ?_
                  refine r_load_ptr rfl rfl (by decide) rfl rfl rfl ?_
                  refine r_len rfl rfl rfl ?_
                  refine r_callG [(1000, 1000)] [] [(1000, Cont.cells 149 (skTys (skNext (skNext (d.ls k.1).2))))] (c_Below (skNext (d.ls k.1).2) ⟨by omega, by omega⟩ _) rfl rfl (by repeat (first | exact cv_nil | refine cv_cons ?_ ?_ | exact cv_ptr List.mem_cons_self | exact cv_pub rfl rfl)) (pre_cons (a := 1000) (b := 1000) (by exact List.mem_cons_self) rfl (cc_cells_eq (by exact List.mem_cons_self) rfl rfl rfl) pre_nil) (post_cons (a := 1000) (b := 1000) (by exact List.mem_cons_self) rfl (cc_cells_eq (by exact List.mem_cons_self) rfl rfl rfl) post_nil) (cv_pub rfl rfl) ?_
                  refine r_build rfl rfl (by exact List.cons_ne_nil _ _) rfl (by repeat (first | exact (Parts.nil : Parts _ _ [] _) | (show Parts _ _ ((_, _) :: _) _; apply Parts.one; (· exact (rfl : _ = Ty.int _ _)); (· exact rfl)))) (by exact (rfl : _ = some [_, _, _, _])) ?_
                  refine r_alloc rfl (by exact List.cons_ne_nil _ _) rfl ?_
                  refine r_storeN rfl rfl (by decide) rfl rfl rfl rfl rfl rfl ?_
                  refine r_nil ?_
                  refine ⟨by kernel_rfl, ?_⟩
                  refine i_then ?_
                  refine t_seq ?_
                  have hcl : 0 ≤ contI d.y0 d.real (skBelow (skNext (d.ls k.1).2) d.nb) (skBelow (d.ls k.1).2 (d.D + 1)) ∧ contI d.y0 d.real (skBelow (skNext (d.ls k.1).2) d.nb) (skBelow (d.ls k.1).2 (d.D + 1)) ≤ 300 := by
                    have := d.cont_in hd (skBelow (skNext (d.ls k.1).2) d.nb).toNat (skBelow (d.ls k.1).2 (d.D + 1)) (by omega)
                    rwa [Int.toNat_of_nonneg f6.1] at this
                  have hce : ∀ b t, contI ⟨d.D, d.bins1, d.moves0, (d.ls k.1).1⟩ d.real b t = contI d.y0 d.real b t := fun b t => cont_bins (y := d.y0)
                  have hcb : -1000000 ≤ contI ⟨d.D, d.bins1, d.moves0, (d.ls k.1).1⟩ d.real (skBelow (skNext (d.ls k.1).2) d.nb) (skBelow (d.ls k.1).2 (d.D + 1)) ∧ contI ⟨d.D, d.bins1, d.moves0, (d.ls k.1).1⟩ d.real (skBelow (skNext (d.ls k.1).2) d.nb) (skBelow (d.ls k.1).2 (d.D + 1)) ≤ 1000000 := by rw [hce]; omega
                  refine t_asC (tg := 25) rfl (Cont.sub_cellsL (l' := [Ty.int .i64 (skBelow (d.ls k.1).2 (d.D + 1)), Ty.int .i64 (skBelow (skNext (d.ls k.1).2) d.nb), Ty.int .i64 0, Ty.int .i64 0]) ⟨Ty.sub_refl _, Ty.sub_int (by rw [b5]), Ty.sub_refl _, Ty.sub_refl _, trivial⟩) ?_
                  refine t_forget (B := live [(0, Ty.ptr 1000 0), (10, Ty.ptr 11 0), (11, Ty.ptr 12 0), (12, Ty.ptr 13 0), (13, Ty.ptr 14 0), (24, Ty.ptr 25 0), (218, Ty.int .i64 (d.nl : Nat)), (219, Ty.int .i64 (k.1 : Nat))] [(11, Cont.cells 27 [Ty.int .i64 0, Ty.ex (.slice none 0 0), Ty.ex (.slice none 0 0), Ty.ex (.slice none 0 0)]), (12, Cont.cells 30 [Ty.ex (.slice none 0 0), Ty.ex (.slice none 0 0)]), (13, Cont.cells 27 [Ty.int .i64 d.D, Ty.sl BinE d.bins1, Ty.sl MoveE d.moves0, Ty.row LevelE 102 246 (d.ls k.1).1]), (14, Cont.cells 30 [Ty.sl I64 d.first, Ty.sl I64 d.moved]), (25, Cont.cells 102 [Ty.int .i64 (skBelow (d.ls k.1).2 (d.D + 1)), Ty.int .i64 (skBelow (skNext (d.ls k.1).2) d.nb), Ty.int .i64 0, Ty.int .i64 0]), (1000, Cont.cells 149 (skTys (skNext (skNext (d.ls k.1).2))))]) ?_ ?_
                  · refine Ent.mk' ?_ ?_
                    · (repeat (first | refine allSub_succ' ?_ (Ty.sub_any _) | refine allSub_succ' ?_ (Ty.sub_refl _))); exact allSub_zero
                    · refine allTags_cons rfl (Cont.sub_refl _) ?_; refine allTags_cons rfl (Cont.sub_refl _) ?_; refine allTags_cons rfl (Cont.sub_refl _) ?_; refine allTags_cons rfl (Cont.sub_refl _) ?_; refine allTags_cons rfl (Cont.sub_refl _) ?_; refine allTags_cons rfl (Cont.sub_refl _) ?_; exact allTags_nil
                  refine t_region ?_
                  refine mvO rfl ?_
                  refine r_load_ptrN rfl rfl (by decide) rfl rfl (by exact Nat.le_of_ble_eq_true rfl) ?_
                  refine r_load_ptrN rfl rfl (by decide) rfl rfl (by exact Nat.le_of_ble_eq_true rfl) ?_
                  refine r_field_ptr rfl rfl rfl rfl rfl (by decide) ?_
                  refine r_load_ptr rfl rfl (by decide) rfl rfl rfl ?_
                  refine r_field_ptr rfl rfl rfl rfl rfl (by decide) ?_
                  refine r_load_ptr rfl rfl (by decide) rfl rfl rfl ?_
                  refine r_callLC [246] (c_contents ⟨d.D, d.bins1, d.moves0, (d.ls k.1).1⟩ d.real (real_small hd) (skBelow (skNext (d.ls k.1).2) d.nb) (skBelow (d.ls k.1).2 (d.D + 1)) f6.1 (by show _ < d.first.length; omega)) rfl (lendcs_cons (lendc_agg (lendcs_cons (lendc_of (lend_pub rfl rfl)) (lendcs_cons (lendc_of (lend_pub rfl rfl)) (lendcs_cons (lendc_of (lend_pub rfl rfl)) (lendcs_cons (lendc_of (lend_row rfl)) lendcs_nil))))) (lendcs_cons (lendc_of (lend_pub rfl rfl)) (lendcs_cons (lendc_of (lend_pub rfl rfl)) (lendcs_cons (lendc_of (lend_pub rfl rfl)) lendcs_nil)))) (by exact plain_int _ _) ?_
                  refine r_callG [(1000, 1000)] [] [(1000, Cont.cells 149 (skTys (skNext (skNext (skNext (skNext (d.ls k.1).2))))))] (c_near (skNext (skNext (d.ls k.1).2)) ⟨by omega, by omega⟩ (contI ⟨d.D, d.bins1, d.moves0, (d.ls k.1).1⟩ d.real (skBelow (skNext (d.ls k.1).2) d.nb) (skBelow (d.ls k.1).2 (d.D + 1))) 8 hcb (by omega)) rfl rfl (by repeat (first | exact cv_nil | refine cv_cons ?_ ?_ | exact cv_ptr List.mem_cons_self | exact cv_pub rfl rfl)) (pre_cons (a := 1000) (b := 1000) (by exact List.mem_cons_self) rfl (cc_cells_eq (by exact List.mem_cons_self) rfl rfl rfl) pre_nil) (post_cons (a := 1000) (b := 1000) (by exact List.mem_cons_self) rfl (cc_cells_eq (by exact List.mem_cons_self) rfl rfl rfl) post_nil) (cv_pub rfl rfl) ?_
                  refine r_field_ptr rfl rfl rfl rfl rfl (by decide) ?_
                  refine r_storeNo (lr := [Ty.int .i64 (skBelow (d.ls k.1).2 (d.D + 1)), Ty.int .i64 (skBelow (skNext (d.ls k.1).2) d.nb), Ty.int .i64 (skNear (skNext (skNext (d.ls k.1).2)) (contI ⟨d.D, d.bins1, d.moves0, (d.ls k.1).1⟩ d.real (skBelow (skNext (d.ls k.1).2) d.nb) (skBelow (d.ls k.1).2 (d.D + 1))) 8).lo, Ty.int .i64 (skNear (skNext (skNext (d.ls k.1).2)) (contI ⟨d.D, d.bins1, d.moves0, (d.ls k.1).1⟩ d.real (skBelow (skNext (d.ls k.1).2) d.nb) (skBelow (d.ls k.1).2 (d.D + 1))) 8).hi]) rfl rfl (by decide) rfl rfl rfl (by exact Nat.le_of_ble_eq_true rfl) rfl rfl rfl ?_
                  refine r_nil ?_
                  refine i_then ?_
                  refine t_asC (tg := 25) rfl (Cont.sub_cellsL (l' := LevelE.tys (d.lev (d.ls k.1).2)) ⟨Ty.sub_refl _, Ty.sub_refl _, Ty.sub_int (by rw [hce]; rfl), Ty.sub_int (by rw [hce]; rfl), trivial⟩) ?_
                  refine t_forget (B := live [(0, Ty.ptr 1000 0), (10, Ty.ptr 11 0), (11, Ty.ptr 12 0), (12, Ty.ptr 13 0), (13, Ty.ptr 14 0), (24, Ty.ptr 25 0), (218, Ty.int .i64 (d.nl : Nat)), (219, Ty.int .i64 (k.1 : Nat))] [(11, Cont.cells 27 [Ty.int .i64 0, Ty.ex (.slice none 0 0), Ty.ex (.slice none 0 0), Ty.ex (.slice none 0 0)]), (12, Cont.cells 30 [Ty.ex (.slice none 0 0), Ty.ex (.slice none 0 0)]), (13, Cont.cells 27 [Ty.int .i64 d.D, Ty.sl BinE d.bins1, Ty.sl MoveE d.moves0, Ty.row LevelE 102 246 (d.ls k.1).1]), (14, Cont.cells 30 [Ty.sl I64 d.first, Ty.sl I64 d.moved]), (25, Cont.cells 102 (LevelE.tys (d.lev (d.ls k.1).2))), (1000, Cont.cells 149 (skTys (skNext (skNext (skNext (skNext (d.ls k.1).2))))))]) ?_ ?_
                  · refine Ent.mk' ?_ ?_
                    · (repeat (first | refine allSub_succ' ?_ (Ty.sub_any _) | refine allSub_succ' ?_ (Ty.sub_refl _))); exact allSub_zero
                    · refine allTags_cons rfl (Cont.sub_refl _) ?_; refine allTags_cons rfl (Cont.sub_refl _) ?_; refine allTags_cons rfl (Cont.sub_refl _) ?_; refine allTags_cons rfl (Cont.sub_refl _) ?_; refine allTags_cons rfl (Cont.sub_refl _) ?_; refine allTags_cons rfl (Cont.sub_refl _) ?_; exact allTags_nil
                  refine t_region ?_
                  refine r_field_ptr rfl rfl rfl rfl rfl (by decide) ?_
                  refine r_load_ptr rfl rfl (by decide) rfl rfl rfl ?_
                  refine r_load_ptrN rfl rfl (by decide) rfl rfl (by exact Nat.le_of_ble_eq_true rfl) ?_
                  refine r_buildSlice (E := LevelE) (xs := [d.lev (d.ls k.1).2]) rfl rfl rfl rfl rfl (by decide) (by decide) (by repeat (first | exact (Parts.nil : Parts _ _ [] _) | (show Parts _ _ ((_, _) :: _) _; apply Parts.agg; (· exact (rfl : _ = Ty.agg _))))) (by exact rfl) rfl ?_
                  refine r_append rfl rfl (by decide) rfl rfl rfl rfl rfl rfl (by decide) (by (simp <;> omega)) (by (simp <;> omega)) ?_
                  refine r_field_ptr rfl rfl rfl rfl rfl (by decide) ?_
                  refine r_store1 rfl rfl (by decide) rfl rfl (by exact (rfl : _ = Ty.row _ _ _ _)) rfl (by exact Nat.le_of_ble_eq_true rfl) rfl rfl (by exact rfl) ?_
                  refine r_nil ?_
                  refine i_block ?_
                  refine i_then ?_
                  refine t_region ?_
                  refine r_add rfl rfl (by omega) (by omega) ?_
                  refine mvI rfl ?_
                  refine r_nil ?_
                  refine i_round (⟨k.1 + 1, by omega⟩) ?_ (by show d.nl - (k.1 + 1) < d.nl - k.1; omega)
                  (refine Ent.mk' ?_ ?_ <;> (repeat' (first | exact allSub_zero | exact allTags_nil | exact subs_nil | refine allSub_succ' ?_ (Ty.sub_any _) | refine allSub_succ' ?_ (Ty.sub_refl _) | refine allTags_cons rfl (Cont.sub_refl _) ?_ | refine allTags_cons rfl (Cont.sub_subs ?_) ?_ | refine subs_cons ?_ (Ty.sub_refl _) | refine subs_cons ?_ ?_)))
                  all_goals skip
                  all_goals first | exact Ty.sub_int (congrArg (fun p => p.2.mixed) (ls_s d _)) | exact Ty.sub_int (congrArg (fun p => p.2.taken) (ls_s d _)) | exact Ty.sub_sl (congrArg (fun p => p.2.grain) (ls_s d _)) | exact Ty.sub_row (congrArg Prod.fst (ls_s d _))
                ·
                  refine t_exit ?_
                  refine i_then_exit ?_
                  refine i_then_exit ?_
                  refine i_block_exit rfl ?_
                  refine i_then ?_
                  refine t_seq ?_
                  obtain ⟨k, hk⟩ := k
                  obtain rfl : k = d.nl := by have h1 : ¬ (k : Int) < (d.nl : Int) := hc10; have h2 : k ≤ d.nl := hk; omega
                  refine t_pubC (tg := 246) [] [(13, Cont.cells 27 (yardTys d.yard))] (by decide) rfl trivial ⟨pubC_cells rfl rfl ⟨pubTy_same rfl, pubTy_same rfl, pubTy_same rfl, pubTy_row_eq (show (d.ls d.nl).1 = d.levels1 by unfold Md.levels1; rfl), trivial⟩, trivial⟩ ?_
                  refine t_draw mixed rfl ?_
                  refine r_load_ptrN rfl rfl (by decide) rfl rfl (by exact Nat.le_of_ble_eq_true rfl) ?_
                  refine r_load_ptrN rfl rfl (by decide) rfl rfl (by exact Nat.le_of_ble_eq_true rfl) ?_
                  refine r_storeN rfl rfl (by decide) rfl rfl rfl rfl rfl rfl ?_
                  refine r_storeN rfl rfl (by decide) rfl rfl rfl rfl rfl rfl ?_
                  refine r_nil ?_
                  refine ⟨by kernel_rfl, ?_⟩
                  refine i_then ?_
                  refine t_ret ?_
                  refine g_rcc2 [1000] rfl rfl rfl rfl rfl (by decide) rfl rfl rfl rfl rfl (by decide) rfl rfl rfl (by decide) (by repeat (first | exact rc_nil | refine rc_cons rfl (cc_cells_eq (by decide) rfl rfl rfl) ?_)) ?_ ?_
                  all_goals exact rg_cv (cv_pub rfl rfl)
                  all_goals trace_state
end Go.Proofs.YtelbollidfdcjaaGreat

namespace Go.Proofs.YtelbollidfdcjaaGreat
open Go Go.T
set_option maxHeartbeats 8000000
def whenD (g : List Int) : Md := ⟨skFill g, 5, 3, 7, 5⟩
theorem when_ok (g : List Int) : (whenD g).Ok := ⟨by show (1 : Int) ≤ 5 ∧ (5 : Int) ≤ 5; omega, by show (1 : Int) ≤ 3 ∧ (3 : Int) ≤ 4; omega, by show (0 : Int) ≤ 7 ∧ (7 : Int) ≤ 10; omega, by show (0 : Int) ≤ 5 ∧ (5 : Int) ≤ 8; omega⟩
theorem fidx_cons {p : Span → Bool} {x : Span} {l : List Span} : fidx p (x :: l) = if p x = true then 0 else if fidx p l < 0 then -1 else fidx p l + 1 := by
  unfold fidx
  rw [List.findIdx?_cons]
  cases p x with
  | true => simp
  | false =>
    cases h : List.findIdx? p l with
    | none => simp
    | some i => simp; omega
theorem fidx_mono {p q : Span → Bool} : ∀ {l : List Span}, (∀ x ∈ l, p x = true → q x = true) → ¬ fidx p l < 0 → ¬ fidx q l < 0 ∧ fidx q l ≤ fidx p l
  | [], _, h => absurd (show fidx p [] < 0 by show (-1 : Int) < 0; omega) h
  | x :: l, hpq, h => by
    have ih := fidx_mono (p := p) (q := q) (l := l) fun y hy => hpq y (List.mem_cons_of_mem _ hy)
    have hx := hpq x List.mem_cons_self
    rw [fidx_cons] at h
    rw [fidx_cons, fidx_cons]
    by_cases e : p x = true
    · rw [if_pos e, if_pos (hx e)]; omega
    · rw [if_neg e] at h ⊢
      by_cases e2 : fidx p l < 0
      · rw [if_pos e2] at h; omega
      · rw [if_neg e2] at h ⊢
        obtain ⟨h1, h2⟩ := ih e2
        by_cases e3 : q x = true
        · rw [if_pos e3]; omega
        · rw [if_neg e3, if_neg h1]; omega
section
variable {y : Yard} {b : Nat} {n w : Int} {p q : Span → Bool}
theorem fst_neg (ho : openE y = 0) (hb : b < y.bins.length) (hn : 0 ≤ n ∧ n ≤ 300) (h : fidx p (bndY y (b : Nat)) < 0) : fstE y (b : Nat) n p = 6 ∧ fstV y (b : Nat) n p = 0 := by
  have := fst_4 (s := n) (known_b (open_chk ho) hb) (by rw [Bool.not_eq_false', Bool.and_eq_true, decide_eq_true_eq, decide_eq_true_eq]; omega) (bndE_ok ho hb) h
  exact ⟨this.1.symm, this.2.symm⟩
theorem fst_pos (ho : openE y = 0) (hb : b < y.bins.length) (hn : 0 ≤ n ∧ n ≤ 300) (h : ¬ fidx p (bndY y (b : Nat)) < 0) : fstE y (b : Nat) n p = 0 ∧ fstV y (b : Nat) n p = fidx p (bndY y (b : Nat)) := by
  have := fst_5 (s := n) (known_b (open_chk ho) hb) (by rw [Bool.not_eq_false', Bool.and_eq_true, decide_eq_true_eq, decide_eq_true_eq]; omega) (bndE_ok ho hb) h
  exact ⟨this.1.symm, this.2.symm⟩
theorem fst_more (ho : openE y = 0) (hb : b < y.bins.length) (hn : 0 ≤ n ∧ n ≤ 300) (hw : 0 ≤ w ∧ w ≤ 300) (hpq : ∀ x ∈ bndY y (b : Nat), p x = true → q x = true) (h : fstE y (b : Nat) n p = 0) : fstE y (b : Nat) w q = 0 ∧ fstV y (b : Nat) w q ≤ fstV y (b : Nat) n p := by
  by_cases e : fidx p (bndY y (b : Nat)) < 0
  · rw [(fst_neg ho hb hn e).1] at h; cases h
  · obtain ⟨h1, h2⟩ := fidx_mono hpq e
    rw [(fst_pos ho hb hn e).2, (fst_pos ho hb hw h1).1, (fst_pos ho hb hw h1).2]
    exact ⟨rfl, h2⟩
theorem w14 {i e v : Int} (h1 : i < 0 → e = 6 ∧ v = 0) (h2 : ¬ i < 0 → e = 0 ∧ v = i) : ((decide (i < 0) && (!decide (e = 6) || !decide (v = 0))) || (decide (i ≥ 0) && (!decide (e = 0) || !decide (v = i)))) = false := by
  by_cases c : i < 0
  · obtain ⟨rfl, rfl⟩ := h1 c
    simp; omega
  · obtain ⟨rfl, rfl⟩ := h2 c
    simp; omega
theorem w17 {e v e' v' : Int} (h : e = 0 → e' = 0 ∧ v' ≤ v) : (decide (e = 0) && (!decide (e' = 0) || decide (v' > v))) = false := by
  by_cases c : e = 0
  · obtain ⟨rfl, h2⟩ := h c
    simp; intro _; omega
  · simp [c]
theorem w22 {e v e' v' : Int} (h : e = 0 → e' = 0 ∧ v' ≤ v) : ((!decide (e = 0) || (decide (e' = 0) && decide (v' ≤ v))) && true) = true := by
  by_cases c : e = 0
  · obtain ⟨rfl, h2⟩ := h c
    simp [h2]
  · simp [c]
theorem bnd_ord (ho : openE y = 0) (hb : b < y.bins.length) : ∀ x ∈ bndY y (b : Nat), x.lo ≤ x.hi := fun x hx => by
  obtain ⟨t, ht, rfl⟩ := mem_nth hx
  rw [bndY_len ho hb] at ht
  have h := bndY_isS ho hb (show t ≤ y.D by omega)
  obtain ⟨a, ha, _⟩ := h.lo
  have := h.all a ha
  omega
theorem c_MadeW (g : List Int) : CtrG Tryz.prog 17 [1000] [(1000, Cont.cells 149 (skTys (skFill g)))] [Ty.ptr 1000 0, Ty.int .i64 5, Ty.int .i64 3, Ty.int .i64 7, Ty.int .i64 5] [(1000, Cont.cells 149 (skTys (whenD g).sk))] (Ty.tup [yardT (whenD g).yard, amtsT (whenD g).real]) :=
  c_Made (whenD g) (when_ok g) (by have := skFill_ok g; exact ⟨this.1, by have := this.2; show (skFill g).taken + 1000 ≤ _; omega⟩)
theorem when_len (ho : openE y = 0) (hb : b < y.bins.length) : (!decide ((0 : Int) = 0) || !decide (((bndY y (b : Nat)).length : Int) = y.days + 1)) = false := by
  rw [bndY_len ho hb]
  have := D_eq (chk_right (open_chk ho))
  simp; omega
end
attribute [local irreducible] Md.yard Md.real bndY bndE openE fstV fstE whenD
attribute [local irreducible] dInt dBool dSl dPp dPtr dAgg dTup dClo dAny dEx dStr dGd dCells dVec dVs dRow dOp nth Tri Into TOps Ctr bodyPost Exit.then Exit.inBlock Code.wp Code.wpIn dWhen dPa dPe dAo dArr dMp dPm dMap dCJ CtrG CtrI OpY keepPost iterPost bodyPostM roundQ
set_option maxRecDepth 100000 in
theorem c_When1 (s : Span) (k : Int) : Ctr Tryz.prog 36 [Ty.agg (SpanE.tys s), Ty.pp [Ty.int .i64 k]] (Ty.bool (decide (s.lo ≥ k))) := by
  refine fn_intro Tryz.func36 rfl (by decide) Tryz.ntmps36 (by exact Nat.le_of_ble_eq_true rfl) fun w0 M0 => ?_
  refine t_seq ?_
  refine t_region ?_
  refine r_box_agg rfl ?_
  refine asB rfl ?_
  refine r_nil ?_
  refine i_then ?_
  refine t_seq ?_
  refine t_region ?_
  refine r_field_pp rfl rfl rfl rfl rfl (by decide) ?_
  refine r_load_pp rfl rfl rfl rfl ?_
  refine r_load_pp rfl rfl rfl rfl ?_
  refine r_bin rfl rfl rfl ?_
  refine asB rfl ?_
  refine r_nil ?_
  refine i_then ?_
  refine t_ret ?_
  refine i_rp1 rfl rfl ?_
  all_goals exact ret_refl rfl rfl
set_option maxRecDepth 100000 in
theorem c_When2 (s : Span) (k : Int) : Ctr Tryz.prog 37 [Ty.agg (SpanE.tys s), Ty.pp [Ty.int .i64 k]] (Ty.bool (decide (s.hi ≥ k))) := by
  refine fn_intro Tryz.func37 rfl (by decide) Tryz.ntmps37 (by exact Nat.le_of_ble_eq_true rfl) fun w0 M0 => ?_
  refine t_seq ?_
  refine t_region ?_
  refine r_box_agg rfl ?_
  refine asB rfl ?_
  refine r_nil ?_
  refine i_then ?_
  refine t_seq ?_
  refine t_region ?_
  refine r_field_pp rfl rfl rfl rfl rfl (by decide) ?_
  refine r_load_pp rfl rfl rfl rfl ?_
  refine r_load_pp rfl rfl rfl rfl ?_
  refine r_bin rfl rfl rfl ?_
  refine asB rfl ?_
  refine r_nil ?_
  refine i_then ?_
  refine t_ret ?_
  refine i_rp1 rfl rfl ?_
  all_goals exact ret_refl rfl rfl
set_option maxRecDepth 100000 in
theorem c_StockWhen (g : List Int) (u v : Int) (hu : 0 ≤ u ∧ u ≤ 255) (hv : 0 ≤ v ∧ v ≤ 65535) : Ctr Tryz.prog 5 [Ty.sl U8 g, Ty.int .u8 u, Ty.int .u16 v] (Ty.bool true) := by
  refine fn_intro Tryz.func5 rfl (by decide) Tryz.ntmps5 (by exact Nat.le_of_ble_eq_true rfl) fun w0 M0 => ?_
  have hd := when_ok g
  have hyr := (whenD g).right hd
  have ho := open_yes (right_chk hyr) ⟨_, (whenD g).fits hd _⟩
  have hyb := hyr.bins
  have hym := hyr.moves
  have hyl := hyr.levels
  have hyd := hyr.days
  have hs : (whenD g).yard.Small := ⟨by omega, by omega, by omega⟩
  have hD := D_eq hyr
  have hds : (whenD g).s = skFill g := by unfold whenD; rfl
  refine t_seq ?_
  refine t_region ?_
  refine asB rfl ?_
  refine r_nil ?_
  refine i_then ?_
  refine t_seq ?_
  refine t_region ?_
  refine mvS rfl ?_
  refine r_callG [(26, 10)] [26] [(26, Cont.cells 149 (skTys (skFill g)))] (c_Fill g) rfl rfl (by repeat (first | exact cv_nil | refine cv_cons ?_ ?_ | exact cv_pub rfl rfl)) pre_nil (post_cons (a := 26) (b := 10) (by exact List.mem_cons_self) rfl (cc_cells_eq (by exact List.mem_cons_self) rfl rfl rfl) post_nil) (cv_ptr (by exact List.mem_cons_self)) ?_
  refine r_callG (res' := Ty.tup [yardT (whenD g).yard, amtsT (whenD g).real]) [(26, 1000)] [] [(26, Cont.cells 149 (skTys (whenD g).sk))] (c_MadeW g) rfl rfl (by repeat (first | exact cv_nil | refine cv_cons ?_ ?_ | exact cv_ptr List.mem_cons_self | exact cv_pub rfl rfl)) (pre_cons (a := 26) (b := 1000) (by exact List.mem_cons_self) rfl (cc_cells_eq (by exact List.mem_cons_self) rfl rfl rfl) pre_nil) (post_cons (a := 26) (b := 1000) (by exact List.mem_cons_self) rfl (cc_cells_eq (by exact List.mem_cons_self) rfl rfl rfl) post_nil) (cv_pub rfl rfl) ?_
  refine mvT rfl ?_
  refine r_extract rfl rfl ?_
  refine r_extract rfl rfl ?_
  refine r_alloc rfl (by exact List.cons_ne_nil _ _) rfl ?_
  refine r_alloc rfl (by exact List.cons_ne_nil _ _) rfl ?_
  refine r_storeN rfl rfl (by decide) rfl rfl rfl rfl rfl rfl ?_
  refine r_storeN rfl rfl (by decide) rfl rfl rfl rfl rfl rfl ?_
  refine r_nil ?_
  refine i_then ?_
  refine t_seq ?_
  refine t_forget (B := live [(1, Ty.int .u8 u), (2, Ty.int .u16 v), (7, Ty.ptr 8 0)] [(8, Cont.cells 27 (yardTys (whenD g).yard))]) ?_ ?_
  · (refine Ent.mk' ?_ ?_ <;> (repeat' (first | exact allSub_zero | exact allTags_nil | refine allSub_succ' ?_ (Ty.sub_any _) | refine allSub_succ' ?_ (Ty.sub_refl _) | refine allTags_cons rfl (Cont.sub_refl _) ?_)))
  refine t_region ?_
  refine mvI rfl ?_
  refine r_conv rfl rfl rfl rfl ?_
  refine r_field_ptr rfl rfl rfl rfl rfl (by decide) ?_
  refine r_load_ptr rfl rfl (by decide) rfl rfl rfl ?_
  refine r_len rfl rfl rfl ?_
  refine r_rem rfl rfl (by omega) ?_
  refine mvI rfl ?_
  refine r_conv rfl rfl rfl rfl ?_
  refine r_rem rfl rfl (by omega) ?_
  refine r_alloc rfl (by exact List.cons_ne_nil _ _) rfl ?_
  refine asI rfl ?_
  refine r_store1 rfl rfl (by decide) rfl rfl (by exact (rfl : _ = Ty.int _ _)) rfl (by exact Nat.le_of_ble_eq_true rfl) rfl rfl (by exact (rfl : _ = [_])) ?_
  refine r_nil ?_
  refine i_then ?_
  refine t_seq ?_
  have hbm := tmod_in (a := u) (b := ((whenD g).yard.bins.length : Int)) hu.1 (by omega)
  obtain ⟨b, eb, hb⟩ : ∃ b : Nat, u.tmod ((whenD g).yard.bins.length : Int) = b ∧ b < (whenD g).yard.bins.length := ⟨(u.tmod ((whenD g).yard.bins.length : Int)).toNat, by omega, by omega⟩
  have hnm := tmod_in (a := v) (b := 90) hv.1 (by omega)
  obtain ⟨n, en⟩ : ∃ n : Int, v.tmod 90 = n := ⟨_, rfl⟩
  rw [en] at hnm
  have hn3 : 0 ≤ n ∧ n ≤ 300 := by omega
  have ew : IntKind.i64.wrap u = u := IntWalk.i64_in _ (by omega)
  have ev : IntKind.i64.wrap v = v := IntWalk.i64_in _ (by omega)
  refine t_as (s := 9) rfl (Ty.sub_int (b := ((b : Nat) : Int)) (by (rw [ew]; exact eb))) ?_
  refine t_asC (tg := 11) rfl (Cont.sub_cellsL (l' := [Ty.int .i64 n]) ⟨Ty.sub_int (b := n) (by (rw [ev]; exact en)), trivial⟩) ?_
  refine t_pub (tg := 11) [(10, Ty.pp [Ty.int .i64 n])] (by decide) rfl ⟨pub_ptr (T := 3) (off := 0) (l := [Ty.int .i64 n]) rfl rfl rfl (by decide), trivial⟩ ?_
  refine t_forget (B := live [(7, Ty.ptr 8 0), (9, Ty.int .i64 (b : Nat)), (10, Ty.pp [Ty.int .i64 n])] [(8, Cont.cells 27 (yardTys (whenD g).yard))]) ?_ ?_
  · (refine Ent.mk' ?_ ?_ <;> (repeat' (first | exact allSub_zero | exact allTags_nil | refine allSub_succ' ?_ (Ty.sub_any _) | refine allSub_succ' ?_ (Ty.sub_refl _) | refine allTags_cons rfl (Cont.sub_refl _) ?_)))
  have hw : 0 ≤ (IntKind.i64.wrap (n.tdiv 2)) ∧ (IntKind.i64.wrap (n.tdiv 2)) ≤ n := by
    have h1 : n.tdiv 2 = n / 2 := Int.tdiv_eq_ediv_of_nonneg hnm.1
    rw [IntWalk.i64_in _ (by rw [h1]; omega), h1]; omega
  have hw3 : 0 ≤ (IntKind.i64.wrap (n.tdiv 2)) ∧ (IntKind.i64.wrap (n.tdiv 2)) ≤ 300 := by omega
  have m1 : ∀ x ∈ bndY (whenD g).yard (b : Nat), (fun x : Span => decide (x.lo ≥ n)) x = true → (fun x : Span => decide (x.lo ≥ (IntKind.i64.wrap (n.tdiv 2)))) x = true := fun x _ h => by simp only [decide_eq_true_eq] at h ⊢; omega
  have m2 : ∀ x ∈ bndY (whenD g).yard (b : Nat), (fun x : Span => decide (x.hi ≥ n)) x = true → (fun x : Span => decide (x.hi ≥ (IntKind.i64.wrap (n.tdiv 2)))) x = true := fun x _ h => by simp only [decide_eq_true_eq] at h ⊢; omega
  have m3 : ∀ x ∈ bndY (whenD g).yard (b : Nat), (fun x : Span => decide (x.lo ≥ n)) x = true → (fun x : Span => decide (x.hi ≥ n)) x = true := fun x hx h => by have := bnd_ord ho hb x hx; simp only [decide_eq_true_eq] at h ⊢; omega
  refine t_region ?_
  refine r_load_ptrN rfl rfl (by decide) rfl rfl (by exact Nat.le_of_ble_eq_true rfl) ?_
  refine mvI rfl ?_
  refine r_call (c_Bounds (whenD g).yard hs (b : Nat)) rfl rfl rfl rfl rfl ?_
  refine mvT rfl ?_
  refine r_extract rfl rfl ?_
  refine r_extract rfl rfl ?_
  refine asS rfl ?_
  refine asI rfl ?_
  refine r_nil ?_
  refine i_then ?_
  refine t_seq ?_
  refine t_seq ?_
  refine t_as (s := 12) rfl (Ty.sub_int (bndE_ok ho hb)) ?_
  refine t_region ?_
  refine mvI rfl ?_
  refine r_bin rfl rfl rfl ?_
  refine mvB rfl ?_
  apply r_guard (s := 47) rfl rfl rfl
  · intro hg; apply opT_of; (refine mvS rfl ?_); refine r_nil ?_; exact rfl
  · exact rfl
  · exact rfl
  apply r_guard (s := 47) rfl rfl rfl
  · intro hg; apply opT_strip (s := 48) rfl (by (rw [hg]; rfl)); apply opT_of; (refine r_len rfl rfl rfl ?_); refine r_nil ?_; exact rfl
  · exact rfl
  · exact rfl
  apply r_guard (s := 47) rfl rfl rfl
  · intro hg; apply opT_of; (refine r_field_ptr rfl rfl rfl rfl rfl (by decide) ?_); refine r_nil ?_; exact rfl
  · exact rfl
  · exact rfl
  apply r_guard (s := 47) rfl rfl rfl
  · intro hg; apply opT_strip (s := 50) rfl (by (rw [hg]; rfl)); apply opT_of; (refine r_load_ptr rfl rfl (by decide) rfl rfl rfl ?_); refine r_nil ?_; exact rfl
  · exact rfl
  · exact rfl
  apply r_guard (s := 47) rfl rfl rfl
  · intro hg; apply opT_strip (s := 51) rfl (by (rw [hg]; rfl)); apply opT_of; (refine r_add rfl rfl (by omega) (by omega) ?_); refine r_nil ?_; exact rfl
  · exact rfl
  · exact rfl
  apply r_guard (s := 47) rfl rfl rfl
  · intro hg; apply opT_strip (s := 49) rfl (by (rw [hg]; rfl)); apply opT_strip (s := 52) rfl (by (rw [hg]; rfl)); apply opT_of; (refine r_bin rfl rfl rfl ?_); refine r_nil ?_; exact rfl
  · exact rfl
  · exact rfl
  refine r_or rfl rfl ?_
  refine r_nil ?_
  refine i_then ?_
  refine t_cond_ff rfl (when_len ho hb) ?_
  refine t_skip ?_
  refine i_then ?_
  refine t_seq ?_
  refine t_seq ?_
  refine t_region ?_
  refine mvI rfl ?_
  refine r_nil ?_
  refine i_then ?_
  refine t_block ?_
  refine t_loop (fun (i : {i : Nat // i ≤ 2}) => live [(7, Ty.ptr 8 0), (9, Ty.int .i64 (b : Nat)), (10, Ty.pp [Ty.int .i64 n]), (11, Ty.sl SpanE (bndY (whenD g).yard (b : Nat))), (55, Ty.int .i64 (i.1 : Nat))] [(8, Cont.cells 27 (yardTys (whenD g).yard))]) (fun i => 2 - i.1) (⟨0, by omega⟩) ?_ fun i => ?_
  · (refine Ent.mk' ?_ ?_ <;> (repeat' (first | exact allSub_zero | exact allTags_nil | refine allSub_succ' ?_ (Ty.sub_any _) | refine allSub_succ' ?_ (Ty.sub_refl _) | refine allTags_cons rfl (Cont.sub_refl _) ?_)))
  ·
    have hi := i.2
    refine t_seq ?_
    refine t_region ?_
    refine r_bin rfl rfl rfl ?_
    refine r_nil ?_
    refine i_then ?_
    refine t_seq ?_
    refine t_cond_dec rfl (fun hc2 => ?_) (fun hc2 => ?_)
    ·
      refine t_skip ?_
      refine i_then ?_
      refine t_seq ?_
      refine t_block ?_
      refine t_seq ?_
      refine t_region ?_
      refine mvI rfl ?_
      refine asI rfl ?_
      refine r_nil ?_
      refine i_then ?_
      refine t_seq ?_
      refine t_region ?_
      refine r_makeFunc rfl ?_
      refine asF rfl ?_
      refine asF rfl ?_
      refine r_nil ?_
      refine i_then ?_
      refine t_seq ?_
      refine t_seq ?_
      refine t_region ?_
      refine mvI rfl ?_
      refine r_bin rfl rfl rfl ?_
      refine r_nil ?_
      refine i_then ?_
      refine t_cond_dec rfl (fun hc3 => ?_) (fun hc3 => ?_)
      ·
        refine t_region ?_
        refine r_makeFunc rfl ?_
        refine asF rfl ?_
        refine asF rfl ?_
        refine r_nil ?_
        refine i_then ?_
        refine t_seq ?_
        refine t_region ?_
        refine mvF rfl ?_
        refine r_load_ptrN rfl rfl (by decide) rfl rfl (by exact Nat.le_of_ble_eq_true rfl) ?_
        refine mvI rfl ?_
        refine r_load_pp rfl rfl rfl rfl ?_
        refine r_callc rfl (cal_clo (f := 34) (caps := []) (c_Perhaps (whenD g).yard hs (b : Nat) n) rfl rfl rfl rfl rfl rfl) rfl ?_
        refine mvT rfl ?_
        refine r_extract rfl rfl ?_
        refine r_extract rfl rfl ?_
        refine asI rfl ?_
        refine asI rfl ?_
        refine r_nil ?_
        refine i_then ?_
        refine t_seq ?_
        refine t_region ?_
        refine mvS rfl ?_
        refine mvF rfl ?_
        refine r_call (c_IndexFunc_spn (bndY (whenD g).yard (b : Nat)) (Ty.clo 37 [Ty.pp [Ty.int .i64 n]]) rfl (fun x : Span => decide (x.hi ≥ n)) rfl rfl (fun x _ => cal_clo (c_When2 x n) rfl rfl rfl rfl rfl rfl)) rfl rfl rfl rfl rfl ?_
        refine asI rfl ?_
        refine r_nil ?_
        refine i_then ?_
        refine t_seq ?_
        refine t_seq ?_
        refine t_region ?_
        refine mvI rfl ?_
        refine r_bin rfl rfl rfl ?_
        refine mvB rfl ?_
        apply r_guard (s := 75) rfl rfl rfl
        · intro hg; apply opT_of; (refine mvI rfl ?_); refine r_nil ?_; exact rfl
        · exact rfl
        · exact rfl
        apply r_guard (s := 75) rfl rfl rfl
        · intro hg; apply opT_strip (s := 76) rfl (by (rw [hg]; rfl)); apply opT_of; (refine r_bin rfl rfl rfl ?_); refine r_nil ?_; exact rfl
        · exact rfl
        · exact rfl
        apply r_guard (s := 75) rfl rfl rfl
        · intro hg; apply opT_strip (s := 77) rfl (by (rw [hg]; rfl)); apply opT_of; (refine mvB rfl ?_); refine r_nil ?_; exact rfl
        · exact rfl
        · exact rfl
        apply r_guardG (s := 78) rfl rfl rfl
        · intro hg1 hg2; apply opT_of; (refine mvI rfl ?_); refine r_nil ?_; exact rfl
        · exact rfl
        · exact rfl
        apply r_guardG (s := 78) rfl rfl rfl
        · intro hg1 hg2; apply opT_strip (s := 79) rfl (by (rw [hg1, hg2]; rfl)); apply opT_of; (refine r_bin rfl rfl rfl ?_); refine r_nil ?_; exact rfl
        · exact rfl
        · exact rfl
        apply r_guard (s := 75) rfl rfl rfl
        · intro hg; apply opT_strip (s := 78) rfl (by (rw [hg]; rfl)); apply opT_stripG (s := 80) rfl (by (rw [hg]; rfl)); apply opT_of; (refine r_or rfl rfl ?_); refine r_nil ?_; exact rfl
        · exact rfl
        · exact rfl
        refine r_and rfl rfl ?_
        refine mvB rfl ?_
        apply r_guard (s := 83) rfl rfl rfl
        · intro hg; apply opT_of; (refine mvI rfl ?_); refine r_nil ?_; exact rfl
        · exact rfl
        · exact rfl
        apply r_guard (s := 83) rfl rfl rfl
        · intro hg; apply opT_strip (s := 84) rfl (by (rw [hg]; rfl)); apply opT_of; (refine r_bin rfl rfl rfl ?_); refine r_nil ?_; exact rfl
        · exact rfl
        · exact rfl
        apply r_guard (s := 83) rfl rfl rfl
        · intro hg; apply opT_strip (s := 85) rfl (by (rw [hg]; rfl)); apply opT_of; (refine mvB rfl ?_); refine r_nil ?_; exact rfl
        · exact rfl
        · exact rfl
        apply r_guardG (s := 86) rfl rfl rfl
        · intro hg1 hg2; apply opT_of; (refine mvI rfl ?_); refine r_nil ?_; exact rfl
        · exact rfl
        · exact rfl
        apply r_guardG (s := 86) rfl rfl rfl
        · intro hg1 hg2; apply opT_strip (s := 87) rfl (by (rw [hg1, hg2]; rfl)); apply opT_of; (refine r_bin rfl rfl rfl ?_); refine r_nil ?_; exact rfl
        · exact rfl
        · exact rfl
        apply r_guardG (s := 86) rfl rfl rfl
        · intro hg1 hg2; apply opT_strip (s := 88) rfl (by (rw [hg1, hg2]; rfl)); apply opT_of; (refine mvB rfl ?_); refine r_nil ?_; exact rfl
        · exact rfl
        · exact rfl
        apply r_guardG (s := 89) rfl rfl rfl
        · intro hg1 hg2; apply opT_of; (refine mvI rfl ?_); refine r_nil ?_; exact rfl
        · exact rfl
        · exact rfl
        apply r_guardG (s := 89) rfl rfl rfl
        · intro hg1 hg2; apply opT_of; (refine mvI rfl ?_); refine r_nil ?_; exact rfl
        · exact rfl
        · exact rfl
        apply r_guardG (s := 89) rfl rfl rfl
        · intro hg1 hg2; apply opT_strip (s := 90) rfl (by (rw [hg1, hg2]; rfl)); apply opT_strip (s := 91) rfl (by (rw [hg1, hg2]; rfl)); apply opT_of; (refine r_bin rfl rfl rfl ?_); refine r_nil ?_; exact rfl
        · exact rfl
        · exact rfl
        apply r_guardG (s := 86) rfl rfl rfl
        · intro hg1 hg2; apply opT_strip (s := 89) rfl (by (rw [hg1, hg2]; rfl)); apply opT_stripG (s := 92) rfl (by (rw [hg1, hg2]; rfl)); apply opT_of; (refine r_or rfl rfl ?_); refine r_nil ?_; exact rfl
        · exact rfl
        · exact rfl
        apply r_guard (s := 83) rfl rfl rfl
        · intro hg; apply opT_strip (s := 86) rfl (by (rw [hg]; rfl)); apply opT_stripG (s := 93) rfl (by (rw [hg]; rfl)); apply opT_of; (refine r_and rfl rfl ?_); refine r_nil ?_; exact rfl
        · exact rfl
        · exact rfl
        refine r_or rfl rfl ?_
        refine r_nil ?_
        refine i_then ?_
        refine t_cond_ff rfl (w14 (fst_neg ho hb hn3) (fst_pos ho hb hn3)) ?_
        refine t_skip ?_
        refine i_then ?_
        refine t_seq ?_
        refine t_region ?_
        refine mvF rfl ?_
        refine r_load_ptrN rfl rfl (by decide) rfl rfl (by exact Nat.le_of_ble_eq_true rfl) ?_
        refine mvI rfl ?_
        refine r_load_pp rfl rfl rfl rfl ?_
        refine r_quo rfl rfl (by omega) ?_
        refine r_callc rfl (cal_clo (f := 34) (caps := []) (c_Perhaps (whenD g).yard hs (b : Nat) (IntKind.i64.wrap (n.tdiv 2))) rfl rfl rfl rfl rfl rfl) rfl ?_
        refine mvT rfl ?_
        refine r_extract rfl rfl ?_
        refine r_extract rfl rfl ?_
        refine asI rfl ?_
        refine asI rfl ?_
        refine r_nil ?_
        refine i_then ?_
        refine t_seq ?_
        refine t_region ?_
        refine mvI rfl ?_
        refine r_bin rfl rfl rfl ?_
        refine mvB rfl ?_
        apply r_guard (s := 107) rfl rfl rfl
        · intro hg; apply opT_of; (refine mvI rfl ?_); refine r_nil ?_; exact rfl
        · exact rfl
        · exact rfl
        apply r_guard (s := 107) rfl rfl rfl
        · intro hg; apply opT_strip (s := 108) rfl (by (rw [hg]; rfl)); apply opT_of; (refine r_bin rfl rfl rfl ?_); refine r_nil ?_; exact rfl
        · exact rfl
        · exact rfl
        apply r_guard (s := 107) rfl rfl rfl
        · intro hg; apply opT_strip (s := 109) rfl (by (rw [hg]; rfl)); apply opT_of; (refine mvB rfl ?_); refine r_nil ?_; exact rfl
        · exact rfl
        · exact rfl
        apply r_guardG (s := 110) rfl rfl rfl
        · intro hg1 hg2; apply opT_of; (refine mvI rfl ?_); refine r_nil ?_; exact rfl
        · exact rfl
        · exact rfl
        apply r_guardG (s := 110) rfl rfl rfl
        · intro hg1 hg2; apply opT_of; (refine mvI rfl ?_); refine r_nil ?_; exact rfl
        · exact rfl
        · exact rfl
        apply r_guardG (s := 110) rfl rfl rfl
        · intro hg1 hg2; apply opT_strip (s := 111) rfl (by (rw [hg1, hg2]; rfl)); apply opT_strip (s := 112) rfl (by (rw [hg1, hg2]; rfl)); apply opT_of; (refine r_bin rfl rfl rfl ?_); refine r_nil ?_; exact rfl
        · exact rfl
        · exact rfl
        apply r_guard (s := 107) rfl rfl rfl
        · intro hg; apply opT_strip (s := 110) rfl (by (rw [hg]; rfl)); apply opT_stripG (s := 113) rfl (by (rw [hg]; rfl)); apply opT_of; (refine r_or rfl rfl ?_); refine r_nil ?_; exact rfl
        · exact rfl
        · exact rfl
        refine r_and rfl rfl ?_
        refine r_nil ?_
        refine i_then ?_
        refine t_cond_ff rfl (w17 (fst_more ho hb hn3 hw3 m2)) ?_
        refine t_skip ?_
        refine i_block ?_
        refine i_then ?_
        refine t_region ?_
        refine r_add rfl rfl (by omega) (by omega) ?_
        refine mvI rfl ?_
        refine r_nil ?_
        refine i_round (⟨i.1 + 1, by omega⟩) ?_ (by show 2 - (i.1 + 1) < 2 - i.1; omega)
        (refine Ent.mk' ?_ ?_ <;> (repeat' (first | exact allSub_zero | exact allTags_nil | refine allSub_succ' ?_ (Ty.sub_any _) | refine allSub_succ' ?_ (Ty.sub_refl _) | refine allTags_cons rfl (Cont.sub_refl _) ?_)))
        all_goals skip
      ·
        refine t_skip ?_
        refine i_then ?_
        refine t_seq ?_
        refine t_region ?_
        refine mvF rfl ?_
        refine r_load_ptrN rfl rfl (by decide) rfl rfl (by exact Nat.le_of_ble_eq_true rfl) ?_
        refine mvI rfl ?_
        refine r_load_pp rfl rfl rfl rfl ?_
        refine r_callc rfl (cal_clo (f := 33) (caps := []) (c_Surely (whenD g).yard hs (b : Nat) n) rfl rfl rfl rfl rfl rfl) rfl ?_
        refine mvT rfl ?_
        refine r_extract rfl rfl ?_
        refine r_extract rfl rfl ?_
        refine asI rfl ?_
        refine asI rfl ?_
        refine r_nil ?_
        refine i_then ?_
        refine t_seq ?_
        refine t_region ?_
        refine mvS rfl ?_
        refine mvF rfl ?_
        refine r_call (c_IndexFunc_spn (bndY (whenD g).yard (b : Nat)) (Ty.clo 36 [Ty.pp [Ty.int .i64 n]]) rfl (fun x : Span => decide (x.lo ≥ n)) rfl rfl (fun x _ => cal_clo (c_When1 x n) rfl rfl rfl rfl rfl rfl)) rfl rfl rfl rfl rfl ?_
        refine asI rfl ?_
        refine r_nil ?_
        refine i_then ?_
        refine t_seq ?_
        refine t_seq ?_
        refine t_region ?_
        refine mvI rfl ?_
        refine r_bin rfl rfl rfl ?_
        refine mvB rfl ?_
        apply r_guard (s := 75) rfl rfl rfl
        · intro hg; apply opT_of; (refine mvI rfl ?_); refine r_nil ?_; exact rfl
        · exact rfl
        · exact rfl
        apply r_guard (s := 75) rfl rfl rfl
        · intro hg; apply opT_strip (s := 76) rfl (by (rw [hg]; rfl)); apply opT_of; (refine r_bin rfl rfl rfl ?_); refine r_nil ?_; exact rfl
        · exact rfl
        · exact rfl
        apply r_guard (s := 75) rfl rfl rfl
        · intro hg; apply opT_strip (s := 77) rfl (by (rw [hg]; rfl)); apply opT_of; (refine mvB rfl ?_); refine r_nil ?_; exact rfl
        · exact rfl
        · exact rfl
        apply r_guardG (s := 78) rfl rfl rfl
        · intro hg1 hg2; apply opT_of; (refine mvI rfl ?_); refine r_nil ?_; exact rfl
        · exact rfl
        · exact rfl
        apply r_guardG (s := 78) rfl rfl rfl
        · intro hg1 hg2; apply opT_strip (s := 79) rfl (by (rw [hg1, hg2]; rfl)); apply opT_of; (refine r_bin rfl rfl rfl ?_); refine r_nil ?_; exact rfl
        · exact rfl
        · exact rfl
        apply r_guard (s := 75) rfl rfl rfl
        · intro hg; apply opT_strip (s := 78) rfl (by (rw [hg]; rfl)); apply opT_stripG (s := 80) rfl (by (rw [hg]; rfl)); apply opT_of; (refine r_or rfl rfl ?_); refine r_nil ?_; exact rfl
        · exact rfl
        · exact rfl
        refine r_and rfl rfl ?_
        refine mvB rfl ?_
        apply r_guard (s := 83) rfl rfl rfl
        · intro hg; apply opT_of; (refine mvI rfl ?_); refine r_nil ?_; exact rfl
        · exact rfl
        · exact rfl
        apply r_guard (s := 83) rfl rfl rfl
        · intro hg; apply opT_strip (s := 84) rfl (by (rw [hg]; rfl)); apply opT_of; (refine r_bin rfl rfl rfl ?_); refine r_nil ?_; exact rfl
        · exact rfl
        · exact rfl
        apply r_guard (s := 83) rfl rfl rfl
        · intro hg; apply opT_strip (s := 85) rfl (by (rw [hg]; rfl)); apply opT_of; (refine mvB rfl ?_); refine r_nil ?_; exact rfl
        · exact rfl
        · exact rfl
        apply r_guardG (s := 86) rfl rfl rfl
        · intro hg1 hg2; apply opT_of; (refine mvI rfl ?_); refine r_nil ?_; exact rfl
        · exact rfl
        · exact rfl
        apply r_guardG (s := 86) rfl rfl rfl
        · intro hg1 hg2; apply opT_strip (s := 87) rfl (by (rw [hg1, hg2]; rfl)); apply opT_of; (refine r_bin rfl rfl rfl ?_); refine r_nil ?_; exact rfl
        · exact rfl
        · exact rfl
        apply r_guardG (s := 86) rfl rfl rfl
        · intro hg1 hg2; apply opT_strip (s := 88) rfl (by (rw [hg1, hg2]; rfl)); apply opT_of; (refine mvB rfl ?_); refine r_nil ?_; exact rfl
        · exact rfl
        · exact rfl
        apply r_guardG (s := 89) rfl rfl rfl
        · intro hg1 hg2; apply opT_of; (refine mvI rfl ?_); refine r_nil ?_; exact rfl
        · exact rfl
        · exact rfl
        apply r_guardG (s := 89) rfl rfl rfl
        · intro hg1 hg2; apply opT_of; (refine mvI rfl ?_); refine r_nil ?_; exact rfl
        · exact rfl
        · exact rfl
        apply r_guardG (s := 89) rfl rfl rfl
        · intro hg1 hg2; apply opT_strip (s := 90) rfl (by (rw [hg1, hg2]; rfl)); apply opT_strip (s := 91) rfl (by (rw [hg1, hg2]; rfl)); apply opT_of; (refine r_bin rfl rfl rfl ?_); refine r_nil ?_; exact rfl
        · exact rfl
        · exact rfl
        apply r_guardG (s := 86) rfl rfl rfl
        · intro hg1 hg2; apply opT_strip (s := 89) rfl (by (rw [hg1, hg2]; rfl)); apply opT_stripG (s := 92) rfl (by (rw [hg1, hg2]; rfl)); apply opT_of; (refine r_or rfl rfl ?_); refine r_nil ?_; exact rfl
        · exact rfl
        · exact rfl
        apply r_guard (s := 83) rfl rfl rfl
        · intro hg; apply opT_strip (s := 86) rfl (by (rw [hg]; rfl)); apply opT_stripG (s := 93) rfl (by (rw [hg]; rfl)); apply opT_of; (refine r_and rfl rfl ?_); refine r_nil ?_; exact rfl
        · exact rfl
        · exact rfl
        refine r_or rfl rfl ?_
        refine r_nil ?_
        refine i_then ?_
        refine t_cond_ff rfl (w14 (fst_neg ho hb hn3) (fst_pos ho hb hn3)) ?_
        refine t_skip ?_
        refine i_then ?_
        refine t_seq ?_
        refine t_region ?_
        refine mvF rfl ?_
        refine r_load_ptrN rfl rfl (by decide) rfl rfl (by exact Nat.le_of_ble_eq_true rfl) ?_
        refine mvI rfl ?_
        refine r_load_pp rfl rfl rfl rfl ?_
        refine r_quo rfl rfl (by omega) ?_
        refine r_callc rfl (cal_clo (f := 33) (caps := []) (c_Surely (whenD g).yard hs (b : Nat) (IntKind.i64.wrap (n.tdiv 2))) rfl rfl rfl rfl rfl rfl) rfl ?_
        refine mvT rfl ?_
        refine r_extract rfl rfl ?_
        refine r_extract rfl rfl ?_
        refine asI rfl ?_
        refine asI rfl ?_
        refine r_nil ?_
        refine i_then ?_
        refine t_seq ?_
        refine t_region ?_
        refine mvI rfl ?_
        refine r_bin rfl rfl rfl ?_
        refine mvB rfl ?_
        apply r_guard (s := 107) rfl rfl rfl
        · intro hg; apply opT_of; (refine mvI rfl ?_); refine r_nil ?_; exact rfl
        · exact rfl
        · exact rfl
        apply r_guard (s := 107) rfl rfl rfl
        · intro hg; apply opT_strip (s := 108) rfl (by (rw [hg]; rfl)); apply opT_of; (refine r_bin rfl rfl rfl ?_); refine r_nil ?_; exact rfl
        · exact rfl
        · exact rfl
        apply r_guard (s := 107) rfl rfl rfl
        · intro hg; apply opT_strip (s := 109) rfl (by (rw [hg]; rfl)); apply opT_of; (refine mvB rfl ?_); refine r_nil ?_; exact rfl
        · exact rfl
        · exact rfl
        apply r_guardG (s := 110) rfl rfl rfl
        · intro hg1 hg2; apply opT_of; (refine mvI rfl ?_); refine r_nil ?_; exact rfl
        · exact rfl
        · exact rfl
        apply r_guardG (s := 110) rfl rfl rfl
        · intro hg1 hg2; apply opT_of; (refine mvI rfl ?_); refine r_nil ?_; exact rfl
        · exact rfl
        · exact rfl
        apply r_guardG (s := 110) rfl rfl rfl
        · intro hg1 hg2; apply opT_strip (s := 111) rfl (by (rw [hg1, hg2]; rfl)); apply opT_strip (s := 112) rfl (by (rw [hg1, hg2]; rfl)); apply opT_of; (refine r_bin rfl rfl rfl ?_); refine r_nil ?_; exact rfl
        · exact rfl
        · exact rfl
        apply r_guard (s := 107) rfl rfl rfl
        · intro hg; apply opT_strip (s := 110) rfl (by (rw [hg]; rfl)); apply opT_stripG (s := 113) rfl (by (rw [hg]; rfl)); apply opT_of; (refine r_or rfl rfl ?_); refine r_nil ?_; exact rfl
        · exact rfl
        · exact rfl
        refine r_and rfl rfl ?_
        refine r_nil ?_
        refine i_then ?_
        refine t_cond_ff rfl (w17 (fst_more ho hb hn3 hw3 m1)) ?_
        refine t_skip ?_
        refine i_block ?_
        refine i_then ?_
        refine t_region ?_
        refine r_add rfl rfl (by omega) (by omega) ?_
        refine mvI rfl ?_
        refine r_nil ?_
        refine i_round (⟨i.1 + 1, by omega⟩) ?_ (by show 2 - (i.1 + 1) < 2 - i.1; omega)
        (refine Ent.mk' ?_ ?_ <;> (repeat' (first | exact allSub_zero | exact allTags_nil | refine allSub_succ' ?_ (Ty.sub_any _) | refine allSub_succ' ?_ (Ty.sub_refl _) | refine allTags_cons rfl (Cont.sub_refl _) ?_)))
        all_goals skip
    ·
      refine t_exit ?_
      refine i_then_exit ?_
      refine i_then_exit ?_
      refine i_block_exit rfl ?_
      refine i_then ?_
      refine t_seq ?_
      refine t_region ?_
      refine r_load_ptrN rfl rfl (by decide) rfl rfl (by exact Nat.le_of_ble_eq_true rfl) ?_
      refine mvI rfl ?_
      refine r_load_pp rfl rfl rfl rfl ?_
      refine r_call (c_Surely (whenD g).yard hs (b : Nat) n) rfl rfl rfl rfl rfl ?_
      refine mvT rfl ?_
      refine r_extract rfl rfl ?_
      refine r_extract rfl rfl ?_
      refine asI rfl ?_
      refine asI rfl ?_
      refine r_nil ?_
      refine i_then ?_
      refine t_seq ?_
      refine t_region ?_
      refine r_load_ptrN rfl rfl (by decide) rfl rfl (by exact Nat.le_of_ble_eq_true rfl) ?_
      refine mvI rfl ?_
      refine r_load_pp rfl rfl rfl rfl ?_
      refine r_call (c_Perhaps (whenD g).yard hs (b : Nat) n) rfl rfl rfl rfl rfl ?_
      refine mvT rfl ?_
      refine r_extract rfl rfl ?_
      refine r_extract rfl rfl ?_
      refine asI rfl ?_
      refine asI rfl ?_
      refine r_nil ?_
      refine i_then ?_
      refine t_seq ?_
      refine t_region ?_
      refine mvI rfl ?_
      refine r_bin rfl rfl rfl ?_
      refine mvB rfl ?_
      apply r_guard (s := 133) rfl rfl rfl
      · intro hg; apply opT_of; (refine mvI rfl ?_); refine r_nil ?_; exact rfl
      · exact rfl
      · exact rfl
      apply r_guard (s := 133) rfl rfl rfl
      · intro hg; apply opT_strip (s := 134) rfl (by (rw [hg]; rfl)); apply opT_of; (refine r_bin rfl rfl rfl ?_); refine r_nil ?_; exact rfl
      · exact rfl
      · exact rfl
      apply r_guard (s := 133) rfl rfl rfl
      · intro hg; apply opT_strip (s := 135) rfl (by (rw [hg]; rfl)); apply opT_of; (refine mvB rfl ?_); refine r_nil ?_; exact rfl
      · exact rfl
      · exact rfl
      apply r_guardG (s := 136) rfl rfl rfl
      · intro hg1 hg2; apply opT_of; (refine mvI rfl ?_); refine r_nil ?_; exact rfl
      · exact rfl
      · exact rfl
      apply r_guardG (s := 136) rfl rfl rfl
      · intro hg1 hg2; apply opT_of; (refine mvI rfl ?_); refine r_nil ?_; exact rfl
      · exact rfl
      · exact rfl
      apply r_guardG (s := 136) rfl rfl rfl
      · intro hg1 hg2; apply opT_strip (s := 137) rfl (by (rw [hg1, hg2]; rfl)); apply opT_strip (s := 138) rfl (by (rw [hg1, hg2]; rfl)); apply opT_of; (refine r_bin rfl rfl rfl ?_); refine r_nil ?_; exact rfl
      · exact rfl
      · exact rfl
      apply r_guard (s := 133) rfl rfl rfl
      · intro hg; apply opT_strip (s := 136) rfl (by (rw [hg]; rfl)); apply opT_stripG (s := 139) rfl (by (rw [hg]; rfl)); apply opT_of; (refine r_and rfl rfl ?_); refine r_nil ?_; exact rfl
      · exact rfl
      · exact rfl
      refine r_or rfl rfl ?_
      refine mvB rfl ?_
      apply r_guard (s := 142) rfl rfl rfl
      · intro hg; apply opT_of; (refine r_call (c_awake) rfl rfl rfl rfl rfl ?_); refine r_nil ?_; exact rfl
      · exact rfl
      · exact rfl
      refine r_and rfl rfl ?_
      refine asB rfl ?_
      refine r_nil ?_
      refine i_then ?_
      refine t_ret ?_
      refine i_rp1 rfl rfl ?_
      all_goals skip
      all_goals exact ret_eq rfl rfl (congrArg Ty.bool (w22 (fst_more ho hb hn3 hn3 m3)))
end Go.Proofs.YtelbollidfdcjaaGreat

namespace Go.T
open Go Go.RowKit Go.ChangeShapes Go.WideShapes Go.ChangeAt
def pubs : Tags := fun _ => none
theorem wf_pubs (w : World) : Wf w pubs := ⟨fun _ _ h => (by cases h), fun _ _ _ _ h => (by cases h)⟩
theorem pubs_zero : ∀ b t, pubs b = some t → t = 0 := fun _ _ h => by cases h
structure Rd {α : Type} (P : Program) (e : TypeId) (E : El α) : Prop where
  size : P.cellsOf e = E.size
  pos : 0 < E.size
  rd : ∀ {H : Type} {enc : TypeId × Value → H} {w : World} {base : Nat} {held : Bool} {n : Nat} {cs : List Value} {y : DataW H × List MemPlace}, DataW.trod enc P w base (fun _ => true) held n e cs = some y → ∃ x, dens w pubs (E.tys x) cs
section
variable {H : Type} {enc : TypeId × Value → H} {P : Program} {w : World} {base : Nat} {held : Bool} {α : Type} {E : El α} {t e : TypeId} {n : Nat} {cs : List Value} {y : DataW H × List MemPlace}
theorem rd_sl (hR : Rd P e E) (ht : P.underlying t = some (.slice e)) (h : DataW.trod enc P w base (fun _ => true) held n t cs = some y) : ∃ v xs, cs = [v] ∧ (Ty.sl E xs).den w pubs v := by
  rcases Go.Deep.open_slice ht h with ⟨rfl, _⟩ | ⟨a, len, cap, m, k, D, Pl, rfl, _, hl, hm, hmm, _, hel⟩
  · exact ⟨_, [], rfl, none, 0, rfl, Nat.le_refl _, Nat.zero_le _, fun h => absurd h (Nat.lt_irrefl _)⟩
  have hlm : len ≤ m := by rw [hmm]; simpa using hl
  have hX : ∀ i : Fin len, ∃ x : α, ∃ cs', w.cells? base (a.add (i.1 * P.cellsOf e)) (P.cellsOf e) = some cs' ∧ dens w pubs (E.tys x) cs' := fun i => by
    obtain ⟨cs', h1, h2⟩ := hel i.1 (Nat.lt_of_lt_of_le i.2 hlm)
    obtain ⟨x, hx⟩ := hR.rd h2
    exact ⟨x, cs', h1, hx⟩
  let X : Fin len → α := fun i => (hX i).choose
  have hXs : ∀ i : Fin len, ∃ cs', w.cells? base (a.add (i.1 * P.cellsOf e)) (P.cellsOf e) = some cs' ∧ dens w pubs (E.tys (X i)) cs' := fun i => (hX i).choose_spec
  have hlen : (List.ofFn X).length = len := by simp
  refine ⟨_, List.ofFn X, rfl, some a, cap, by rw [hlen], by rw [hlen]; exact hl, hm, fun h0 => ?_⟩
  rw [hlen] at h0
  have hcell : ∀ (i : Fin len) (j : Nat) (u : Ty), (E.tys (X i))[j]? = some u → ∃ v, w.cell? (a.add (i.1 * E.size + j)) = some v ∧ u.den w pubs v := fun i j u hu => by
    obtain ⟨cs', h1, h2⟩ := hXs i
    obtain ⟨v, hv, hd⟩ := dens_get h2 j u hu
    obtain ⟨_, g1, g2⟩ := World.cells?_some h1
    have hj : j < P.cellsOf e := by
      rw [hR.size, ← E.len (X i)]
      exact (List.getElem?_eq_some_iff.1 hu).1
    refine ⟨v, ?_, hd⟩
    have := g2 j hj
    rw [Go.Deep.add_add, hv, hR.size] at this
    exact this
  have hsz := hR.pos
  have hfirst : ∃ v, w.cell? (a.add 0) = some v := by
    obtain ⟨u, hu⟩ : ∃ u, (E.tys (X ⟨0, h0⟩))[0]? = some u := ⟨_, List.getElem?_eq_getElem (by rw [E.len]; exact hsz)⟩
    obtain ⟨v, hv, _⟩ := hcell ⟨0, h0⟩ 0 u hu
    exact ⟨v, by simpa using hv⟩
  obtain ⟨b, off, sp⟩ := a
  obtain ⟨v0, hv0⟩ := hfirst
  have hsp : sp = none := by simpa [Addr.add] using World.cell?_spot hv0
  subst hsp
  have hb : b < w.heap.size := by
    obtain ⟨cs', h1, _⟩ := hXs ⟨0, h0⟩
    have := World.cells?_block h1 (by rw [hR.size]; exact hsz)
    simpa [Addr.add] using this
  refine ⟨b, off, rfl, rfl, hb, fun i u hu => ?_⟩
  have hi : i < len * E.size := by
    have := (List.getElem?_eq_some_iff.1 hu).1
    rw [flat_len, hlen] at this; exact this
  have hk : i / E.size < len := Nat.div_lt_of_lt_mul (by rw [Nat.mul_comm]; exact hi)
  have hj : i % E.size < E.size := Nat.mod_lt _ hsz
  have hij : i / E.size * E.size + i % E.size = i := by rw [Nat.mul_comm]; exact Nat.div_add_mod i E.size
  have hu2 := hu
  rw [← hij, flat_get E _ _ _ (by rw [hlen]; exact hk) hj, List.getElem?_ofFn, dif_pos hk] at hu2
  obtain ⟨v, hv, hd⟩ := hcell ⟨i / E.size, hk⟩ (i % E.size) u hu2
  refine ⟨v, ?_, hd⟩
  rw [← Go.WideShapes.add_plain]
  rw [hij] at hv
  exact hv
theorem rd_sl1 {c : Value} (hR : Rd P e E) (ht : P.underlying t = some (.slice e)) (h : DataW.trod enc P w base (fun _ => true) held n t [c] = some y) : ∃ xs, (Ty.sl E xs).den w pubs c := by
  obtain ⟨v, xs, e, hd⟩ := rd_sl hR ht h
  exact ⟨xs, by rw [show c = v by simpa using e]; exact hd⟩
end
section
variable {w w' : World} {S K : Nat → Prop} {M' : Tags}
theorem le_block (le : Le S K w pubs w' M') {b : Nat} (hb : b < w.heap.size) : w'.heap[b]? = w.heap[b]? := (le.pub b hb rfl).2
theorem le_same (le : Le S K w pubs w' M') {p : MemPlace} (hp : p.block < w.heap.size) : w.sameAt w' p := by
  cases p with
  | cell b o => exact World.cell?_of_block (w := w) (le_block le hp)
  | map b => exact le_block le hp
theorem le_kept (le : Le S K w pubs w' M') (may : MemPlace → Prop) : w.keptBut w' may := by
  refine ⟨le.os, le.out, fun i hi => ?_⟩
  have e := le_block le hi
  rw [e]
  split
  · rename_i h1 h2
    rw [h1] at h2
    simp only [Option.some.injEq, Obj.cells.injEq] at h2
    obtain ⟨rfl, rfl, rfl⟩ := h2
    exact ⟨rfl, rfl, rfl, fun _ _ => rfl⟩
  · rename_i h1 h2
    rw [h1] at h2
    simp only [Option.some.injEq, Obj.map.injEq] at h2
    exact Or.inr ⟨h2.1.symm, h2.2.symm⟩
  · rfl
theorem le_frozen (le : Le S K w pubs w' M') {a : Addr} (ha : a.block < w.heap.size) : w'.frozen? a = w.frozen? a := by
  unfold World.frozen?
  rw [le_block le ha]
end
section
variable {H : Type} {enc : TypeId × Value → H} {P : Program}
theorem trodAll_stays (hl : laidOutB P = true) {w w' : World} {sp : Nat → Bool} : ∀ {ts : List TypeId} {vs : List Value} {ds : List (DataW H)} {ps : List MemPlace}, (∀ t ∈ ts, P.readableRec t = true ∧ t < P.types.size) →
    DataW.TrodAll enc P w 0 (fun _ => true) true ts vs ds ps → (∀ p ∈ ps, w.sameAt w' p) → (∀ p ∈ ps, sp p.block = true) → DataW.TrodAll enc P w' 0 sp true ts vs ds ps
  | [], [], [], _, _, h, _, _ => h
  | t :: ts, v :: vs, d :: ds, _, ht, ⟨p, q, h1, h2, e⟩, hs, hsp => by
    subst e
    have h0 := ht t List.mem_cons_self
    exact ⟨p, q, Go.WideElems.Trod_stays hl h0.1 h0.2 h1 (fun x hx => hs x (List.mem_append_left _ hx)) (fun x hx => hsp x (List.mem_append_left _ hx)),
      trodAll_stays hl (fun t h => ht t (List.mem_cons_of_mem _ h)) h2 (fun x hx => hs x (List.mem_append_right _ hx)) (fun x hx => hsp x (List.mem_append_right _ hx)), rfl⟩
theorem post_true {f : Func} {s : ChangeSpec} {apart fresh handsOn again : Bool} {W W' : World} {args : Array Value} {ds : List (DataW H)} {before : List MemPlace} {S K : Nat → Prop} {M' : Tags}
    (hl : laidOutB P = true) (hv : s.vars = []) (hrd : ∀ t ∈ f.params.toList, P.readableRec t = true ∧ t < P.types.size) {tb : TypeId} (htb : P.underlying tb = some .bool) (hrt : f.resultTypes = #[tb])
    (hW : DataW.Whole enc P f.params.toList s.vars apart W args.toList ds [] before) (hres : (s.fn H (ds ++ [])).results = [.lit (.bool true)]) (hargs : (s.fn H (ds ++ [])).args = ds) (hvars : (s.fn H (ds ++ [])).vars = [])
    (le : Le S K W pubs W' M') : s.post enc P f apart fresh handsOn again W args (.bool true) W' := by
  have hW0 := hW
  obtain ⟨p, q, hA, hV, hb, hfz, hn⟩ := hW0
  have hlt := DataW.TrodAll.lt hA
  have hq : q = [] := by rw [hv] at hV; exact (trodVars_none hV).2
  subst hq
  have hbp : before = p := by rw [hb]; simp
  have hre : ∀ (b : Nat) (sp : Nat → Bool) (hd : Bool), DataW.TrodAll enc P W' b sp hd f.resultTypes.toList ((Value.bool true).resultList f.resultTypes.size) (s.fn H (ds ++ [])).results [] := fun b sp hd => by
    rw [hrt, hres]; exact trodAll_mk1 (shut_bool htb true)
  have har : ∀ sp : Nat → Bool, (∀ x ∈ p, sp x.block = true) → DataW.TrodAll enc P W' 0 sp true f.params.toList args.toList (s.fn H (ds ++ [])).args p := fun sp hsp => by
    rw [hargs]; exact trodAll_stays hl hrd hA (fun x hx => le_same le (hlt x hx)) hsp
  have hva : ∀ sp : Nat → Bool, DataW.TrodVars enc P W' sp s.vars (s.fn H (ds ++ [])).vars [] := fun sp => by
    rw [hvars, hv]; exact rfl
  have hok : ∀ (j : Nat) (t : TypeId) (r : Value), f.resultTypes[j]? = some t → ((Value.bool true).resultList f.resultTypes.size)[j]? = some r → Value.okWide P W' .any 0 t r := by
    exact ok_one (by rw [hrt]) rfl (okWide_bool_mk htb true)
  refine ⟨ds, [], before, [], p, [], hW, hre _ _ _, har _ (fun x hx => by simpa using hlt x hx), hva _, World.keptBut_mono (fun x hx => hx) (le_kept le _), fun _ => ?_⟩
  refine ⟨hok, _, _, ([] ++ p) ++ [], ⟨[] ++ p, [], trodAll_append (har _ (fun _ _ => rfl)) (hre _ _ _), hva _, rfl, ?_, ?_⟩, ?_⟩
  · intro b off hp
    have hp' : MemPlace.cell b off ∈ p := by simpa using hp
    rw [le_frozen le (hlt _ hp')]
    exact hfz b off (by rw [hbp]; exact hp')
  · intro ha
    have := hn ha
    rw [hbp] at this
    simpa using this
  · intro x hx _
    rw [hbp]
    simpa using hx
end
end Go.T
