/- Lemmas: the program and the reference walked, plain laws. -/
import Derived.Test.YtelbollidfdcjaaGreatYd
namespace Go.Proofs.YtelbollidfdcjaaGreat
open Go Go.T
set_option maxHeartbeats 16000000
structure ShIx (h : List Int → Bool) (many lim : Nat) (l : List Int) (i0 : Nat) (o0 : List Int) where
  i : Nat
  o : List Int
  ge : i0 ≤ i
  le : i ≤ lim
  same : visM h many (lim - i0) l i0 o0 = visM h many (lim - i) l i o
section
variable {h : List Int → Bool} {many lim i0 k : Nat} {l o0 : List Int}
theorem ShIx.nat (x : ShIx h many lim l i0 o0) (hi : (x.i : Int) < (lim : Int)) : x.i < lim := by omega
def ShIx.next (x : ShIx h many lim l i0 o0) (hi : (x.i : Int) < (lim : Int)) (hg : (goM h many lim (l ++ [(x.i : Int)]) (x.i + 1) x.o).1 = false) : ShIx h many lim l i0 o0 :=
  ⟨x.i + 1, (goM h many lim (l ++ [(x.i : Int)]) (x.i + 1) x.o).2, by have := x.ge; omega, by omega, by rw [x.same, vis_step (x.nat hi), if_neg (by rw [hg]; decide)]⟩
theorem ShIx.found (x : ShIx h many lim l i0 o0) (hm : ¬ l.length = many) (hi : (x.i : Int) < (lim : Int)) (hg : (goM h many lim (l ++ [(x.i : Int)]) (x.i + 1) x.o).1 = true) : goM h many lim l i0 o0 = goM h many lim (l ++ [(x.i : Int)]) (x.i + 1) x.o := by
  rw [go_ne hm, x.same, vis_step (x.nat hi), if_pos hg]
theorem ShIx.stop (x : ShIx h many lim l i0 o0) (hm : ¬ l.length = many) (hi : ¬ (x.i : Int) < (lim : Int)) : goM h many lim l i0 o0 = (false, x.o) := by
  rw [go_ne hm, x.same, vis_end (by omega)]
def shB (h : List Int → Bool) (lim : Nat) : Bool := (shortM h lim).isSome
def shV (h : List Int → Bool) (lim : Nat) : List Int := (shortM h lim).getD []
theorem sh_yes {k : Nat} (h0 : NoneS h lim k) (hk : k ≤ lim) (h1 : (goM h k lim [] 0 []).1 = true) : true = shB h lim ∧ (goM h k lim [] 0 []).2 = shV h lim := by
  unfold shB shV; rw [short_some h0 hk h1]; exact ⟨rfl, rfl⟩
theorem sh_no {k : Nat} (h0 : NoneS h lim k) (hk : k ≤ lim + 1) (h1 : ¬ (k : Int) < (lim : Int) + 1) : false = shB h lim ∧ [] = shV h lim := by
  unfold shB shV; rw [short_none h0 (by omega)]; exact ⟨rfl, rfl⟩
theorem len_int (h : ((l.length : Nat) : Int) = (many : Nat)) : l.length = many := by omega
theorem len_int' (h : ¬ ((l.length : Nat) : Int) = (many : Nat)) : ¬ l.length = many := by omega
end
theorem more_conv {ρ : List (Nat × Nat)} {th : Ty} {h1 : th.deps = []} {h2 : th.cdeps = []} {many lim a b : Nat} (e0 : (a, 1000) ∈ ρ) (e1 : (b, 1001) ∈ ρ) : Convs ρ [Ty.clo 171 [Ty.pp [Ty.int .i64 (many : Nat)], Ty.ptr a 0, Ty.pp [Ty.nd th h1 h2], Ty.pp [Ty.int .i64 (lim : Nat)], Ty.ptr b 0]] [Ty.clo 171 [Ty.pp [Ty.int .i64 (many : Nat)], Ty.ptr 1000 0, Ty.pp [Ty.nd th h1 h2], Ty.pp [Ty.int .i64 (lim : Nat)], Ty.ptr 1001 0]] :=
  cv_cons cv_nil (cv_clo (cv_cons (cv_cons (cv_cons (cv_cons (cv_cons cv_nil (cv_ptr e1)) (cv_pub rfl rfl)) (cv_pub rfl rfl)) (cv_ptr e0)) (cv_pub rfl rfl)))
abbrev morePre (th : Ty) (h1 : th.deps = []) (h2 : th.cdeps = []) (many lim : Nat) (o : List Int) : List (Nat × Cont) := [(1000, Cont.cells 28 [Ty.sl I64 o]), (1001, Cont.cells 122 [Ty.clo 171 [Ty.pp [Ty.int .i64 (many : Nat)], Ty.ptr 1000 0, Ty.pp [Ty.nd th h1 h2], Ty.pp [Ty.int .i64 (lim : Nat)], Ty.ptr 1001 0]])]
theorem more_rc {A : As} {th : Ty} {h1 : th.deps = []} {h2 : th.cdeps = []} {many lim : Nat} {o o' : List Int} (e0 : A.tag 1000 = some (Cont.cells 28 [Ty.sl I64 o])) (e1 : A.tag 1001 = some (Cont.cells 122 [Ty.clo 171 [Ty.pp [Ty.int .i64 (many : Nat)], Ty.ptr 1000 0, Ty.pp [Ty.nd th h1 h2], Ty.pp [Ty.int .i64 (lim : Nat)], Ty.ptr 1001 0]])) (e : o = o') : RetCs A [1000, 1001] (morePre th h1 h2 many lim o') := by
  subst e; exact rc_cons e0 (cc_cells (by decide) (cv_cons cv_nil (cv_pub rfl rfl))) (rc_cons e1 (cc_cells (by decide) (more_conv (by decide) (by decide))) rc_nil)
attribute [local irreducible] dInt dBool dSl dPp dPtr dAgg dTup dClo dAny dEx dStr dGd dCells dVec dVs dRow dOp nth Tri Into TOps Ctr bodyPost Exit.then Exit.inBlock Code.wp Code.wpIn dWhen dPa dPe dAo dArr dMp dPm dMap dCJ CtrG CtrI OpY keepPost iterPost bodyPostM roundQ
attribute [local irreducible] goM visM
set_option maxRecDepth 100000 in
theorem k_Clone_int (l : List Int) (h : l.length ≤ 1000) : CtrG Tryz.prog 172 [] [] [Ty.sl I64 l] [] (Ty.row I64 3 6 l) := by
  refine fnG_intro Tryz.func172 rfl (by decide) Tryz.ntmps172 (by exact Nat.le_of_ble_eq_true rfl) fun w0 M0 => ?_
  refine t_seq ?_
  refine t_region ?_
  refine asX rfl ?_
  refine r_nil ?_
  refine i_then ?_
  refine t_seq ?_
  refine t_seq ?_
  refine t_region ?_
  refine mvS rfl ?_
  refine r_eqnil und28 rfl ?_
  refine r_nil ?_
  refine i_then ?_
  refine t_cond_nb rfl (fun hc1 => ?_) (fun hc1 => ?_)
  ·
    refine t_seq ?_
    refine t_region ?_
    refine asX rfl ?_
    refine r_nil ?_
    refine i_then ?_
    refine t_ret ?_
    refine i_then_ret ?_
    refine g_ret1 [6] rfl rfl (by decide) (by repeat (exact rc_nil)) ?_
    all_goals skip
    all_goals (obtain rfl : l = [] := hc1; exact rg_cv cv_nilrow)
  ·
    refine t_skip ?_
    refine i_then ?_
    refine t_seq ?_
    refine t_region ?_
    refine r_buildRow (E := I64) rfl rfl rfl rfl ?_
    refine mvS rfl ?_
    refine r_append rfl rfl (by decide) rfl rfl rfl rfl rfl rfl (by decide) (by (simp <;> omega)) (by (simp <;> omega)) ?_
    refine asR rfl ?_
    refine r_nil ?_
    refine i_then ?_
    refine t_ret ?_
    refine g_ret1 [6] rfl rfl (by decide) (by repeat (exact rc_nil)) ?_
    all_goals skip
    all_goals exact rg_cv (cv_row (by decide))
set_option maxRecDepth 100000 in
theorem c_more (th : Ty) (h1 : th.deps = []) (h2 : th.cdeps = []) (h : List Int → Bool) (hf : ∀ l, Cal Tryz.prog (Ty.nd th h1 h2) [Ty.sl I64 l] (Ty.bool (h l))) (many lim : Nat) (hmn : many ≤ 1000) (hlm : lim ≤ 1000) (d : Nat) (l : List Int) (i : Nat) (o : List Int) (hi : i ≤ lim) (hll : l.length ≤ many) (hd : lim - i < d) : CtrG Tryz.prog 171 [1000, 1001] (morePre th h1 h2 many lim o) [Ty.row I64 3 1002 l, Ty.int .i64 (i : Nat), Ty.pp [Ty.int .i64 (many : Nat)], Ty.ptr 1000 0, Ty.pp [Ty.nd th h1 h2], Ty.pp [Ty.int .i64 (lim : Nat)], Ty.ptr 1001 0] (morePre th h1 h2 many lim (goM h many lim l i o).2) (Ty.bool (goM h many lim l i o).1) := by
  induction d generalizing l i o
  case zero => exact absurd hd (by omega)
  rename_i d ih
  refine fnG_intro Tryz.func171 rfl (by decide) Tryz.ntmps171 (by exact Nat.le_of_ble_eq_true rfl) fun w0 M0 => ?_
  refine t_seq ?_
  refine t_pub (tg := 1002) [(0, Ty.sl I64 l)] (by decide) rfl ⟨pub_row rfl, trivial⟩ ?_
  refine t_region ?_
  refine asB rfl ?_
  refine r_nil ?_
  refine i_then ?_
  refine t_seq ?_
  refine t_seq ?_
  refine t_region ?_
  refine mvS rfl ?_
  refine r_len rfl rfl rfl ?_
  refine r_load_pp rfl rfl rfl rfl ?_
  refine r_bin rfl rfl rfl ?_
  refine r_nil ?_
  refine i_then ?_
  refine t_cond_dec rfl (fun hc1 => ?_) (fun hc1 => ?_)
  ·
    refine t_seq ?_
    refine t_region ?_
    refine mvS rfl ?_
    refine r_store1 rfl rfl (by decide) rfl rfl (by exact (rfl : _ = Ty.sl _ _)) rfl (by exact Nat.le_of_ble_eq_true rfl) rfl rfl (by exact (rfl : _ = [_])) ?_
    refine r_nil ?_
    refine i_then ?_
    refine t_seq ?_
    refine t_region ?_
    refine r_load_pp rfl rfl rfl rfl ?_
    refine mvS rfl ?_
    refine r_callc rfl (hf l) rfl ?_
    refine asB rfl ?_
    refine r_nil ?_
    refine i_then ?_
    refine t_ret ?_
    refine i_then_ret ?_
    refine g_ret1 [1000, 1001] rfl rfl (by decide) ?_ ?_
    · exact more_rc rfl rfl (congrArg Prod.snd (go_eq (len_int hc1))).symm
    all_goals skip
    all_goals exact rg_cv (cv_eq rfl rfl (congrArg Ty.bool (congrArg Prod.fst (go_eq (len_int hc1))).symm))
  ·
    refine t_skip ?_
    refine i_then ?_
    refine t_seq ?_
    refine t_seq ?_
    have hlm2 := len_int' hc1
    refine t_region ?_
    refine mvI rfl ?_
    refine asI rfl ?_
    refine r_nil ?_
    refine i_then ?_
    refine t_block ?_
    refine t_loop (fun (x : ShIx h many lim l i o) => live [(0, Ty.sl I64 l), (2, Ty.pp [Ty.int .i64 (many : Nat)]), (3, Ty.ptr 1000 0), (4, Ty.pp [Ty.nd th h1 h2]), (5, Ty.pp [Ty.int .i64 (lim : Nat)]), (6, Ty.ptr 1001 0), (10, Ty.int .i64 (x.i : Nat))] [(1000, Cont.cells 28 [Ty.sl I64 x.o]), (1001, Cont.cells 122 [Ty.clo 171 [Ty.pp [Ty.int .i64 (many : Nat)], Ty.ptr 1000 0, Ty.pp [Ty.nd th h1 h2], Ty.pp [Ty.int .i64 (lim : Nat)], Ty.ptr 1001 0]])]) (fun x => lim - x.i) (⟨i, o, Nat.le_refl _, hi, rfl⟩) ?_ fun x => ?_
    · (refine Ent.mk' ?_ ?_ <;> (repeat' (first | exact allSub_zero | exact allTags_nil | refine allSub_succ' ?_ (Ty.sub_any _) | refine allSub_succ' ?_ (Ty.sub_refl _) | refine allTags_cons rfl (Cont.sub_refl _) ?_)))
    ·
      have hxl := x.le
      refine t_seq ?_
      refine t_seq ?_
      refine t_region ?_
      refine mvI rfl ?_
      refine r_load_pp rfl rfl rfl rfl ?_
      refine r_bin rfl rfl rfl ?_
      refine r_nil ?_
      refine i_then ?_
      refine t_cond_dec rfl (fun hc2 => ?_) (fun hc2 => ?_)
      ·
        refine t_skip ?_
        refine i_then ?_
        refine t_seq ?_
        refine t_block ?_
        refine t_seq ?_
        refine t_draw mixed rfl ?_
        refine r_load_ptr rfl rfl (by decide) rfl rfl rfl ?_
        refine mvS rfl ?_
        refine r_callG (res' := Ty.row I64 3 27 l) [(27, 6)] [27] [] (k_Clone_int l (by omega)) rfl rfl (by repeat (first | exact cv_nil | refine cv_cons ?_ ?_ | exact cv_pub rfl rfl)) pre_nil post_nil (cv_row (by exact List.mem_cons_self)) ?_
        refine mvI rfl ?_
        refine r_buildSlice (E := I64) (xs := [(x.i : Int)]) rfl rfl rfl rfl rfl (by decide) (by decide) (by repeat (first | exact (Parts.nil : Parts _ _ [] _) | (show Parts _ _ ((_, _) :: _) _; apply Parts.one; (· exact (rfl : _ = Ty.int _ _)); (· exact rfl)))) (by exact rfl) rfl ?_
        refine r_append rfl rfl (by decide) rfl rfl rfl rfl rfl rfl (by decide) (by (simp <;> omega)) (by (simp <;> omega)) ?_
        refine mvI rfl ?_
        refine r_add rfl rfl (by omega) (by omega) ?_
        refine r_callvG [(1000, 1000), (1001, 1001), (27, 1002)] [27] (morePre th h1 h2 many lim (goM h many lim (l ++ [(x.i : Int)]) (x.i + 1) x.o).2) rfl (ih (l ++ [(x.i : Int)]) (x.i + 1) x.o (by omega) (by rw [List.length_append]; show l.length + 1 ≤ many; omega) (by have := x.ge; omega)) rfl rfl (cv_cons (cv_cons (cv_cons (cv_cons (cv_cons (cv_cons (cv_cons cv_nil (cv_ptr (by decide))) (cv_pub rfl rfl)) (cv_pub rfl rfl)) (cv_ptr (by decide))) (cv_pub rfl rfl)) (cv_pub rfl rfl)) (cv_row (by decide))) (pre_cons (a := 1000) (b := 1000) (by decide) rfl (cc_cells (by decide) (cv_cons cv_nil (cv_pub rfl rfl))) (pre_cons (a := 1001) (b := 1001) (by decide) rfl (cc_cells (by decide) (more_conv (by decide) (by decide))) pre_nil)) (post_cons (a := 1000) (b := 1000) (by decide) rfl (cc_cells (by decide) (cv_cons cv_nil (cv_pub rfl rfl))) (post_cons (a := 1001) (b := 1001) (by decide) rfl (cc_cells (by decide) (more_conv (by decide) (by decide))) post_nil)) (cv_pub rfl rfl) ?_
        refine r_nil ?_
        refine ⟨by kernel_rfl, ?_⟩
        refine i_then ?_
        refine t_cond rfl (fun hc3 => ?_) (fun hc3 => ?_)
        ·
          refine t_seq ?_
          refine t_region ?_
          refine asB rfl ?_
          refine r_nil ?_
          refine i_then ?_
          refine t_ret ?_
          refine i_block_ret ?_
          refine i_then_ret ?_
          refine i_then_ret ?_
          refine i_block_ret ?_
          refine i_then_ret ?_
          refine g_ret1 [1000, 1001] rfl rfl (by decide) ?_ ?_
          · exact more_rc rfl rfl (congrArg Prod.snd (x.found hlm2 hc2 hc3)).symm
          all_goals skip
          all_goals exact rg_cv (cv_eq rfl rfl (congrArg Ty.bool (hc3.symm.trans (congrArg Prod.fst (x.found hlm2 hc2 hc3)).symm)))
        ·
          refine t_skip ?_
          refine i_block ?_
          refine i_then ?_
          refine t_region ?_
          refine mvI rfl ?_
          refine r_add rfl rfl (by omega) (by omega) ?_
          refine asI rfl ?_
          refine r_nil ?_
          refine i_round (x.next hc2 hc3) ?_ (by show lim - (x.i + 1) < lim - x.i; omega)
          (refine Ent.mk' ?_ ?_ <;> (repeat' (first | exact allSub_zero | exact allTags_nil | refine allSub_succ' ?_ (Ty.sub_any _) | refine allSub_succ' ?_ (Ty.sub_refl _) | refine allTags_cons rfl (Cont.sub_refl _) ?_)))
          all_goals skip
      ·
        refine t_exit ?_
        refine i_then_exit ?_
        refine i_then_exit ?_
        refine i_block_exit rfl ?_
        refine i_then ?_
        refine t_seq ?_
        refine t_region ?_
        refine asB rfl ?_
        refine r_nil ?_
        refine i_then ?_
        refine t_ret ?_
        refine g_ret1 [1000, 1001] rfl rfl (by decide) ?_ ?_
        · exact more_rc rfl rfl (congrArg Prod.snd (x.stop hlm2 hc2)).symm
        all_goals skip
        all_goals exact rg_cv (cv_eq rfl rfl (congrArg Ty.bool (congrArg Prod.fst (x.stop hlm2 hc2)).symm))
set_option maxRecDepth 100000 in
theorem c_shortest (th : Ty) (h1 : th.deps = []) (h2 : th.cdeps = []) (ho : th.one = true) (h : List Int → Bool) (hf : ∀ l, Cal Tryz.prog (Ty.nd th h1 h2) [Ty.sl I64 l] (Ty.bool (h l))) (lim : Nat) (hlm : lim ≤ 999) : Ctr Tryz.prog 113 [Ty.int .i64 (lim : Nat), Ty.nd th h1 h2] (Ty.tup [Ty.sl I64 (shV h lim), Ty.bool (shB h lim)]) := by
  refine fn_intro Tryz.func113 rfl (by decide) Tryz.ntmps113 (by exact Nat.le_of_ble_eq_true rfl) fun w0 M0 => ?_
  refine t_seq ?_
  refine t_region ?_
  refine r_box_one (by exact (rfl : _ = Ty.int _ _)) rfl ?_
  refine r_box_one (ty := Ty.nd th h1 h2) rfl ho ?_
  refine asX rfl ?_
  refine asB rfl ?_
  refine r_nil ?_
  refine i_then ?_
  refine t_seq ?_
  refine t_seq ?_
  refine t_region ?_
  refine r_load_pp rfl rfl rfl rfl ?_
  refine r_add rfl rfl (by omega) (by omega) ?_
  refine mvI rfl ?_
  refine r_nil ?_
  refine i_then ?_
  refine t_block ?_
  refine t_loop (fun (k : {k : Nat // k ≤ lim + 1 ∧ NoneS h lim k}) => live [(2, Ty.pp [Ty.int .i64 (lim : Nat)]), (3, Ty.pp [Ty.nd th h1 h2]), (10, Ty.int .i64 ((lim : Int) + 1)), (11, Ty.int .i64 (k.1 : Nat))] []) (fun k => lim + 1 - k.1) (⟨0, by omega, none_zero⟩) ?_ fun k => ?_
  · (refine Ent.mk' ?_ ?_ <;> (repeat' (first | exact allSub_zero | exact allTags_nil | refine allSub_succ' ?_ (Ty.sub_any _) | refine allSub_succ' ?_ (Ty.sub_refl _))))
  ·
    have hk := k.2.1
    refine t_seq ?_
    refine t_region ?_
    refine r_bin rfl rfl rfl ?_
    refine r_nil ?_
    refine i_then ?_
    refine t_seq ?_
    refine t_cond_dec rfl (fun hc1 => ?_) (fun hc1 => ?_)
    ·
      refine t_skip ?_
      refine i_then ?_
      refine t_seq ?_
      refine t_block ?_
      refine t_seq ?_
      refine t_region ?_
      refine mvI rfl ?_
      refine r_alloc rfl (by exact List.cons_ne_nil _ _) rfl ?_
      refine r_store1 rfl rfl (by decide) rfl rfl (by exact (rfl : _ = Ty.int _ _)) rfl (by exact Nat.le_of_ble_eq_true rfl) rfl rfl (by exact (rfl : _ = [_])) ?_
      refine r_nil ?_
      refine i_then ?_
      refine t_seq ?_
      refine t_pub (tg := 7) [(6, Ty.pp [Ty.int .i64 (k.1 : Nat)])] (by decide) rfl ⟨pub_ptr (T := 3) (off := 0) (l := [Ty.int .i64 (k.1 : Nat)]) rfl rfl rfl (by decide), trivial⟩ ?_
      refine t_region ?_
      refine r_alloc rfl (by exact List.cons_ne_nil _ _) rfl ?_
      refine r_nil ?_
      refine i_then ?_
      refine t_seq ?_
      refine t_region ?_
      refine r_alloc rfl (by exact List.cons_ne_nil _ _) rfl ?_
      refine r_nil ?_
      refine i_then ?_
      refine t_seq ?_
      refine t_region ?_
      refine r_makeFunc rfl ?_
      refine r_store1 rfl rfl (by decide) rfl rfl (by exact (rfl : _ = Ty.clo _ _)) rfl (by exact Nat.le_of_ble_eq_true rfl) rfl rfl (by exact (rfl : _ = [_])) ?_
      refine r_nil ?_
      refine i_then ?_
      refine t_seq ?_
      refine t_asC (tg := 8) rfl (Cont.sub_cellsL (l' := [Ty.sl I64 ([] : List Int)]) ⟨Ty.nil_sl, trivial⟩) ?_
      refine t_region ?_
      refine r_load_ptr rfl rfl (by decide) rfl rfl rfl ?_
      refine r_callvG [(8, 1000), (9, 1001)] [] [(8, Cont.cells 28 [Ty.sl I64 (goM h k.1 lim [] 0 []).2]), (9, Cont.cells 122 [Ty.clo 171 [Ty.pp [Ty.int .i64 (k.1 : Nat)], Ty.ptr 8 0, Ty.pp [Ty.nd th h1 h2], Ty.pp [Ty.int .i64 (lim : Nat)], Ty.ptr 9 0]])] rfl (c_more th h1 h2 h hf k.1 lim (by omega) (by omega) (lim + 1) [] 0 [] (by omega) (Nat.zero_le _) (by omega)) rfl rfl (cv_cons (cv_cons (cv_cons (cv_cons (cv_cons (cv_cons (cv_cons cv_nil (cv_ptr (by decide))) (cv_pub rfl rfl)) (cv_pub rfl rfl)) (cv_ptr (by decide))) (cv_pub rfl rfl)) (cv_pub rfl rfl)) cv_nilrow) (pre_cons (a := 8) (b := 1000) (by decide) rfl (cc_cells (by decide) (cv_cons cv_nil (cv_pub rfl rfl))) (pre_cons (a := 9) (b := 1001) (by decide) rfl (cc_cells (by decide) (more_conv (by decide) (by decide))) pre_nil)) (post_cons (a := 8) (b := 1000) (by decide) rfl (cc_cells (by decide) (cv_cons cv_nil (cv_pub rfl rfl))) (post_cons (a := 9) (b := 1001) (by decide) rfl (cc_cells (by decide) (cv_cons cv_nil (cv_clo (cv_cons (cv_cons (cv_cons (cv_cons (cv_cons cv_nil (cv_ptr (by decide))) (cv_pub rfl rfl)) (cv_pub rfl rfl)) (cv_ptr (by decide))) (cv_pub rfl rfl))))) post_nil)) (cv_pub rfl rfl) ?_
      refine r_nil ?_
      refine i_then ?_
      refine t_cond rfl (fun hc2 => ?_) (fun hc2 => ?_)
      ·
        refine t_seq ?_
        refine t_region ?_
        refine r_load_ptr rfl rfl (by decide) rfl rfl rfl ?_
        refine asS rfl ?_
        refine asB rfl ?_
        refine r_nil ?_
        refine i_then ?_
        refine t_ret ?_
        refine i_block_ret ?_
        refine i_then_ret ?_
        refine i_then_ret ?_
        refine i_block_ret ?_
        refine i_then_ret ?_
        refine i_rp2 rfl rfl rfl ?_ ?_
        all_goals skip
        all_goals first | exact ret_eq rfl rfl (congrArg Ty.bool (sh_yes k.2.2 (by omega) hc2).1) | exact ret_eq rfl rfl (congrArg (Ty.sl I64) (sh_yes k.2.2 (by omega) hc2).2)
      ·
        refine t_skip ?_
        refine i_block ?_
        refine i_then ?_
        refine t_region ?_
        refine r_add rfl rfl (by omega) (by omega) ?_
        refine mvI rfl ?_
        refine r_nil ?_
        refine i_round (⟨k.1 + 1, by omega, none_succ k.2.2 hc2⟩) ?_ (by show lim + 1 - (k.1 + 1) < lim + 1 - k.1; omega)
        (refine Ent.mk' ?_ ?_ <;> (repeat' (first | exact allSub_zero | exact allTags_nil | refine allSub_succ' ?_ (Ty.sub_any _) | refine allSub_succ' ?_ (Ty.sub_refl _))))
        all_goals skip
    ·
      refine t_exit ?_
      refine i_then_exit ?_
      refine i_then_exit ?_
      refine i_block_exit rfl ?_
      refine i_then ?_
      refine t_seq ?_
      refine t_region ?_
      refine asX rfl ?_
      refine asB rfl ?_
      refine r_nil ?_
      refine i_then ?_
      refine t_ret ?_
      refine i_rp2 rfl rfl rfl ?_ ?_
      all_goals skip
      all_goals first | exact ret_eq rfl rfl (congrArg Ty.bool (sh_no k.2.2 k.2.1 hc1).1) | exact ret_nil_eq (sh_no k.2.2 k.2.1 hc1).2.symm
end Go.Proofs.YtelbollidfdcjaaGreat

namespace Go.Proofs.YtelbollidfdcjaaGreat
open Go Go.T
set_option maxHeartbeats 16000000
theorem cal_nd {P : Program} {t : Ty} {h1 : t.deps = []} {h2 : t.cdeps = []} {args : List Ty} {res : Ty} (h : Cal P t args res) : Cal P (Ty.nd t h1 h2) args res := h
noncomputable def clashE (y : Yard) : Int := if checkY y = 0 then (if shB (fun l => !agreeM y (chooseL l false)) y.levels.length = true then 0 else 6) else checkY y
noncomputable def clashV (y : Yard) : List Int := if clashE y = 0 then shV (fun l => !agreeM y (chooseL l false)) y.levels.length else []
theorem clash_1 {y : Yard} (h : ¬ checkY y = 0) : checkY y = clashE y ∧ [] = clashV y := by
  have e : checkY y = clashE y := (if_neg h).symm
  exact ⟨e, by unfold clashV; rw [← e, if_neg h]⟩
theorem clash_2 {y : Yard} (h : checkY y = 0) (h2 : (!shB (fun l => !agreeM y (chooseL l false)) y.levels.length) = true) : 6 = clashE y ∧ [] = clashV y := by
  have e : 6 = clashE y := by unfold clashE; rw [if_pos h, if_neg (by rw [not_b h2]; decide)]
  exact ⟨e, by unfold clashV; rw [← e, if_neg (by decide)]⟩
theorem clash_3 {y : Yard} (h : checkY y = 0) (h2 : (!shB (fun l => !agreeM y (chooseL l false)) y.levels.length) = false) : 0 = clashE y ∧ shV (fun l => !agreeM y (chooseL l false)) y.levels.length = clashV y := by
  have e : 0 = clashE y := by unfold clashE; rw [if_pos h, if_pos (not_not_b h2)]
  exact ⟨e, by unfold clashV; rw [← e, if_pos rfl]⟩
noncomputable def wrongE (y : Yard) : Int := if checkY y = 0 then (if shB (fun l => agreeM y (chooseL l true)) y.levels.length = true then 0 else 7) else checkY y
noncomputable def wrongV (y : Yard) : List Int := if wrongE y = 0 then shV (fun l => agreeM y (chooseL l true)) y.levels.length else []
theorem wrong_1 {y : Yard} (h : ¬ checkY y = 0) : checkY y = wrongE y ∧ [] = wrongV y := by
  have e : checkY y = wrongE y := (if_neg h).symm
  exact ⟨e, by unfold wrongV; rw [← e, if_neg h]⟩
theorem wrong_2 {y : Yard} (h : checkY y = 0) (h2 : (!shB (fun l => agreeM y (chooseL l true)) y.levels.length) = true) : 7 = wrongE y ∧ [] = wrongV y := by
  have e : 7 = wrongE y := by unfold wrongE; rw [if_pos h, if_neg (by rw [not_b h2]; decide)]
  exact ⟨e, by unfold wrongV; rw [← e, if_neg (by decide)]⟩
theorem wrong_3 {y : Yard} (h : checkY y = 0) (h2 : (!shB (fun l => agreeM y (chooseL l true)) y.levels.length) = false) : 0 = wrongE y ∧ shV (fun l => agreeM y (chooseL l true)) y.levels.length = wrongV y := by
  have e : 0 = wrongE y := by unfold wrongE; rw [if_pos h, if_pos (not_not_b h2)]
  exact ⟨e, by unfold wrongV; rw [← e, if_pos rfl]⟩
attribute [local irreducible] flowsY loL Way.beg Way.fin Way.room waysQ sendM overUp overL over waysL reachM hasM lackM lackB mostL pathM sendS stuckM settleM leastL addW goalG betterM bestM cycM roundM hasUp hasV spanU loA hiA firstK Yard.kept Yard.cells checkY knownE allC toldY amtU openE bndA bndS bndE bndY movE movS hasB hasK whlA whlS whlY hasW fstE fstV wrongW inP holdUp holdsM cmB goB stepH agreeM chooseL chooseUp inL agE agV goM visM shB shV shortM
attribute [local irreducible] dInt dBool dSl dPp dPtr dAgg dTup dClo dAny dEx dStr dGd dCells dVec dVs dRow dOp nth Tri Into TOps Ctr bodyPost Exit.then Exit.inBlock Code.wp Code.wpIn dWhen dPa dPe dAo dArr dMp dPm dMap dCJ CtrG CtrI OpY keepPost iterPost bodyPostM roundQ
set_option maxRecDepth 100000 in
theorem c_Clash1 (y : Yard) (hr : y.Right) (l : List Int) : Ctr Tryz.prog 114 [Ty.sl I64 l, Ty.pp (yardTys y)] (Ty.bool ((fun l => !agreeM y (chooseL l false)) l)) := by
  refine fn_intro Tryz.func114 rfl (by decide) Tryz.ntmps114 (by exact Nat.le_of_ble_eq_true rfl) fun w0 M0 => ?_
  refine t_seq ?_
  refine t_region ?_
  refine asB rfl ?_
  refine r_nil ?_
  refine i_then ?_
  refine t_seq ?_
  refine t_region ?_
  refine r_load_ppN rfl rfl rfl (by exact Nat.le_of_ble_eq_true rfl) ?_
  refine mvS rfl ?_
  refine r_call (c_agrees y hr l false) rfl rfl rfl rfl rfl ?_
  refine r_not rfl ?_
  refine asB rfl ?_
  refine r_nil ?_
  refine i_then ?_
  refine t_ret ?_
  refine i_rp1 rfl rfl ?_
  all_goals exact ret_refl rfl rfl
  all_goals trace_state
set_option maxRecDepth 100000 in
theorem c_Clash (y : Yard) (hs : y.Small) : Ctr Tryz.prog 44 [yardT y] (Ty.tup [Ty.sl I64 (clashV y), Ty.int .i64 (clashE y)]) := by
  refine fn_intro Tryz.func44 rfl (by decide) Tryz.ntmps44 (by exact Nat.le_of_ble_eq_true rfl) fun w0 M0 => ?_
  refine t_seq ?_
  refine t_region ?_
  refine r_box_agg rfl ?_
  refine asX rfl ?_
  refine asI rfl ?_
  refine r_nil ?_
  refine i_then ?_
  refine t_seq ?_
  refine t_seq ?_
  refine t_region ?_
  refine r_load_ppN rfl rfl rfl (by exact Nat.le_of_ble_eq_true rfl) ?_
  refine r_call (c_Check y hs) rfl rfl rfl rfl rfl ?_
  refine asI rfl ?_
  refine r_nil ?_
  refine i_then ?_
  refine t_seq ?_
  refine t_region ?_
  refine mvI rfl ?_
  refine r_bin rfl rfl rfl ?_
  refine r_nil ?_
  refine i_then ?_
  refine t_cond_ndec rfl (fun hc1 => ?_) (fun hc1 => ?_)
  ·
    refine t_seq ?_
    refine t_region ?_
    refine mvI rfl ?_
    refine asX rfl ?_
    refine asI rfl ?_
    refine r_nil ?_
    refine i_then ?_
    refine t_ret ?_
    refine i_then_ret ?_
    refine i_rp2 rfl rfl rfl ?_ ?_
    all_goals skip
    all_goals first | exact ret_nil_eq (clash_1 hc1).2.symm | exact ret_eq rfl rfl (congrArg (Ty.int .i64) (clash_1 hc1).1)
  ·
    refine t_skip ?_
    refine i_then ?_
    refine t_seq ?_
    have hck : checkY y = 0 := hc1
    have hr := chk_right hck
    have h8 := hr.levels
    refine t_region ?_
    refine r_field_pp rfl rfl rfl rfl rfl (by decide) ?_
    refine r_load_pp rfl rfl rfl rfl ?_
    refine r_len rfl rfl rfl ?_
    refine r_makeFunc rfl ?_
    refine r_call (c_shortest (Ty.clo 114 [Ty.pp (yardTys y)]) rfl rfl rfl (fun l => !agreeM y (chooseL l false)) (fun l => cal_nd (cal_clo (c_Clash1 y hr l) rfl rfl rfl rfl rfl rfl)) y.levels.length (by omega)) rfl rfl rfl rfl rfl ?_
    refine mvT rfl ?_
    refine r_extract rfl rfl ?_
    refine r_extract rfl rfl ?_
    refine asS rfl ?_
    refine asB rfl ?_
    refine r_nil ?_
    refine i_then ?_
    refine t_seq ?_
    refine t_seq ?_
    refine t_region ?_
    refine mvB rfl ?_
    refine r_not rfl ?_
    refine r_nil ?_
    refine i_then ?_
    refine t_cond rfl (fun hc2 => ?_) (fun hc2 => ?_)
    ·
      refine t_seq ?_
      refine t_region ?_
      refine asX rfl ?_
      refine asI rfl ?_
      refine r_nil ?_
      refine i_then ?_
      refine t_ret ?_
      refine i_then_ret ?_
      refine i_rp2 rfl rfl rfl ?_ ?_
      all_goals skip
      all_goals first | exact ret_nil_eq (clash_2 hck hc2).2.symm | exact ret_eq rfl rfl (congrArg (Ty.int .i64) (clash_2 hck hc2).1)
    ·
      refine t_skip ?_
      refine i_then ?_
      refine t_seq ?_
      refine t_region ?_
      refine mvS rfl ?_
      refine asS rfl ?_
      refine asI rfl ?_
      refine r_nil ?_
      refine i_then ?_
      refine t_ret ?_
      refine i_rp2 rfl rfl rfl ?_ ?_
      all_goals skip
      all_goals first | exact ret_eq rfl rfl (congrArg (Ty.sl I64) (clash_3 hck hc2).2) | exact ret_eq rfl rfl (congrArg (Ty.int .i64) (clash_3 hck hc2).1)
set_option maxRecDepth 100000 in
theorem c_Wrong1 (y : Yard) (hr : y.Right) (l : List Int) : Ctr Tryz.prog 115 [Ty.sl I64 l, Ty.pp (yardTys y)] (Ty.bool ((fun l => agreeM y (chooseL l true)) l)) := by
  refine fn_intro Tryz.func115 rfl (by decide) Tryz.ntmps115 (by exact Nat.le_of_ble_eq_true rfl) fun w0 M0 => ?_
  refine t_seq ?_
  refine t_region ?_
  refine asB rfl ?_
  refine r_nil ?_
  refine i_then ?_
  refine t_seq ?_
  refine t_region ?_
  refine r_load_ppN rfl rfl rfl (by exact Nat.le_of_ble_eq_true rfl) ?_
  refine mvS rfl ?_
  refine r_call (c_agrees y hr l true) rfl rfl rfl rfl rfl ?_
  refine asB rfl ?_
  refine r_nil ?_
  refine i_then ?_
  refine t_ret ?_
  refine i_rp1 rfl rfl ?_
  all_goals exact ret_refl rfl rfl
  all_goals trace_state
set_option maxRecDepth 100000 in
theorem c_Wrong (y : Yard) (hs : y.Small) : Ctr Tryz.prog 45 [yardT y] (Ty.tup [Ty.sl I64 (wrongV y), Ty.int .i64 (wrongE y)]) := by
  refine fn_intro Tryz.func45 rfl (by decide) Tryz.ntmps45 (by exact Nat.le_of_ble_eq_true rfl) fun w0 M0 => ?_
  refine t_seq ?_
  refine t_region ?_
  refine r_box_agg rfl ?_
  refine asX rfl ?_
  refine asI rfl ?_
  refine r_nil ?_
  refine i_then ?_
  refine t_seq ?_
  refine t_seq ?_
  refine t_region ?_
  refine r_load_ppN rfl rfl rfl (by exact Nat.le_of_ble_eq_true rfl) ?_
  refine r_call (c_Check y hs) rfl rfl rfl rfl rfl ?_
  refine asI rfl ?_
  refine r_nil ?_
  refine i_then ?_
  refine t_seq ?_
  refine t_region ?_
  refine mvI rfl ?_
  refine r_bin rfl rfl rfl ?_
  refine r_nil ?_
  refine i_then ?_
  refine t_cond_ndec rfl (fun hc1 => ?_) (fun hc1 => ?_)
  ·
    refine t_seq ?_
    refine t_region ?_
    refine mvI rfl ?_
    refine asX rfl ?_
    refine asI rfl ?_
    refine r_nil ?_
    refine i_then ?_
    refine t_ret ?_
    refine i_then_ret ?_
    refine i_rp2 rfl rfl rfl ?_ ?_
    all_goals skip
    all_goals first | exact ret_nil_eq (wrong_1 hc1).2.symm | exact ret_eq rfl rfl (congrArg (Ty.int .i64) (wrong_1 hc1).1)
  ·
    refine t_skip ?_
    refine i_then ?_
    refine t_seq ?_
    have hck : checkY y = 0 := hc1
    have hr := chk_right hck
    have h8 := hr.levels
    refine t_region ?_
    refine r_field_pp rfl rfl rfl rfl rfl (by decide) ?_
    refine r_load_pp rfl rfl rfl rfl ?_
    refine r_len rfl rfl rfl ?_
    refine r_makeFunc rfl ?_
    refine r_call (c_shortest (Ty.clo 115 [Ty.pp (yardTys y)]) rfl rfl rfl (fun l => agreeM y (chooseL l true)) (fun l => cal_nd (cal_clo (c_Wrong1 y hr l) rfl rfl rfl rfl rfl rfl)) y.levels.length (by omega)) rfl rfl rfl rfl rfl ?_
    refine mvT rfl ?_
    refine r_extract rfl rfl ?_
    refine r_extract rfl rfl ?_
    refine asS rfl ?_
    refine asB rfl ?_
    refine r_nil ?_
    refine i_then ?_
    refine t_seq ?_
    refine t_seq ?_
    refine t_region ?_
    refine mvB rfl ?_
    refine r_not rfl ?_
    refine r_nil ?_
    refine i_then ?_
    refine t_cond rfl (fun hc2 => ?_) (fun hc2 => ?_)
    ·
      refine t_seq ?_
      refine t_region ?_
      refine asX rfl ?_
      refine asI rfl ?_
      refine r_nil ?_
      refine i_then ?_
      refine t_ret ?_
      refine i_then_ret ?_
      refine i_rp2 rfl rfl rfl ?_ ?_
      all_goals skip
      all_goals first | exact ret_nil_eq (wrong_2 hck hc2).2.symm | exact ret_eq rfl rfl (congrArg (Ty.int .i64) (wrong_2 hck hc2).1)
    ·
      refine t_skip ?_
      refine i_then ?_
      refine t_seq ?_
      refine t_region ?_
      refine mvS rfl ?_
      refine asS rfl ?_
      refine asI rfl ?_
      refine r_nil ?_
      refine i_then ?_
      refine t_ret ?_
      refine i_rp2 rfl rfl rfl ?_ ?_
      all_goals skip
      all_goals first | exact ret_eq rfl rfl (congrArg (Ty.sl I64) (wrong_3 hck hc2).2) | exact ret_eq rfl rfl (congrArg (Ty.int .i64) (wrong_3 hck hc2).1)
end Go.Proofs.YtelbollidfdcjaaGreat

namespace Go.Proofs.YtelbollidfdcjaaGreat
open Go Go.T
theorem eq37 (a b c d : Int) (w : World) : (Op.equalIn 9999 37 (.agg #[.int .i64 a, .int .i64 b]) (.agg #[.int .i64 c, .int .i64 d])).run Tryz.prog w = .ok (decide (a = c) && decide (b = d)) w := by
  have hs : Tryz.prog.stoodInHeld 37 = false := by kernel_rfl
  have e3 : ∀ (x y : Int) (w : World), (Op.equalIn 9998 3 (.int .i64 x) (.int .i64 y)).run Tryz.prog w = .ok (decide (x = y)) w := fun x y w => eqIn_int 9997 Tryz.underlying3
  have g3 : ∀ w, (isAgg 3).run Tryz.prog w = .ok false w := fun w => by simp [isAgg, run_underlying Tryz.underlying3]
  rw [Op.equalIn]
  simp only [Sem.run_bind, run_underlying Tryz.underlying37, Result.andThen_ok]
  simp [hs, part, g3, e3]
  by_cases h0 : a = c <;> by_cases h1 : b = d <;> simp [h0, h1]
theorem agg37 (w : World) : (isAgg 37).run Tryz.prog w = .ok true w := by simp [isAgg, run_underlying Tryz.underlying37]
theorem siz37 (w : World) : (sizeOf 37).run Tryz.prog w = .ok 2 w := by
  have h : (Tryz.prog.info? 37).map (·.size) = some 2 := by kernel_rfl
  obtain ⟨ti, h1, h2⟩ := Option.map_eq_some_iff.1 h
  simp [sizeOf, typeInfo, h1, h2]
theorem eqv39 (a0 a1 a2 b0 b1 b2 : Int) (w : World) : (Op.equal 39 (.agg #[.int .i64 a0, .int .i64 a1, .int .i64 a2]) (.agg #[.int .i64 b0, .int .i64 b1, .int .i64 b2])).run Tryz.prog w = .ok (decide (a0 = b0) && (decide (a1 = b1) && decide (a2 = b2))) w := by
  have hs : Tryz.prog.stoodInHeld 39 = false := by kernel_rfl
  have e3 : ∀ (x y : Int) (w : World), (Op.equalIn 9999 3 (.int .i64 x) (.int .i64 y)).run Tryz.prog w = .ok (decide (x = y)) w := fun x y w => eqIn_int 9998 Tryz.underlying3
  have g3 : ∀ w, (isAgg 3).run Tryz.prog w = .ok false w := fun w => by simp [isAgg, run_underlying Tryz.underlying3]
  unfold Op.equal Op.maxDepth
  rw [Op.equalIn]
  simp only [Sem.run_bind, run_underlying Tryz.underlying39, Result.andThen_ok]
  simp [hs, part, g3, e3, agg37, siz37, eq37]
  by_cases h0 : a0 = b0
  case neg => simp [h0]
  cases hq : (decide (a1 = b1) && decide (a2 = b2)) <;> simp_all
theorem eqt39 (a0 a1 a2 b0 b1 b2 : Int) : EqT Tryz.prog 39 [Ty.int .i64 a0, Ty.int .i64 a1, Ty.int .i64 a2] [Ty.int .i64 b0, Ty.int .i64 b1, Ty.int .i64 b2] (decide (a0 = b0) && (decide (a1 = b1) && decide (a2 = b2))) :=
  ⟨by kernel_rfl, fun w M cs ds h1 h2 => by
    obtain ⟨cs⟩ := cs
    obtain ⟨ds⟩ := ds
    match cs, ds, h1, h2 with
    | [u0, u1, u2], [v0, v1, v2], h1, h2 =>
      simp only [dens, Ty.int, dInt, and_true] at h1 h2
      obtain ⟨rfl, rfl, rfl⟩ := h1
      obtain ⟨rfl, rfl, rfl⟩ := h2
      exact eqv39 _ _ _ _ _ _ w⟩
theorem eqv41 (a0 a1 a2 a3 a4 b0 b1 b2 b3 b4 : Int) (w : World) : (Op.equal 41 (.agg #[.int .i64 a0, .int .i64 a1, .int .i64 a2, .int .i64 a3, .int .i64 a4]) (.agg #[.int .i64 b0, .int .i64 b1, .int .i64 b2, .int .i64 b3, .int .i64 b4])).run Tryz.prog w = .ok (decide (a0 = b0) && (decide (a1 = b1) && (decide (a2 = b2) && (decide (a3 = b3) && decide (a4 = b4))))) w := by
  have hs : Tryz.prog.stoodInHeld 41 = false := by kernel_rfl
  have e3 : ∀ (x y : Int) (w : World), (Op.equalIn 9999 3 (.int .i64 x) (.int .i64 y)).run Tryz.prog w = .ok (decide (x = y)) w := fun x y w => eqIn_int 9998 Tryz.underlying3
  have g3 : ∀ w, (isAgg 3).run Tryz.prog w = .ok false w := fun w => by simp [isAgg, run_underlying Tryz.underlying3]
  unfold Op.equal Op.maxDepth
  rw [Op.equalIn]
  simp only [Sem.run_bind, run_underlying Tryz.underlying41, Result.andThen_ok]
  simp [hs, part, g3, e3, agg37, siz37, eq37]
  by_cases h0 : a0 = b0
  case neg => simp [h0]
  by_cases h1 : a1 = b1
  case neg => simp [h1]
  by_cases h2 : a2 = b2
  case neg => simp [h2]
  cases hq : (decide (a3 = b3) && decide (a4 = b4)) <;> simp_all
theorem eqt41 (a0 a1 a2 a3 a4 b0 b1 b2 b3 b4 : Int) : EqT Tryz.prog 41 [Ty.int .i64 a0, Ty.int .i64 a1, Ty.int .i64 a2, Ty.int .i64 a3, Ty.int .i64 a4] [Ty.int .i64 b0, Ty.int .i64 b1, Ty.int .i64 b2, Ty.int .i64 b3, Ty.int .i64 b4] (decide (a0 = b0) && (decide (a1 = b1) && (decide (a2 = b2) && (decide (a3 = b3) && decide (a4 = b4))))) :=
  ⟨by kernel_rfl, fun w M cs ds h1 h2 => by
    obtain ⟨cs⟩ := cs
    obtain ⟨ds⟩ := ds
    match cs, ds, h1, h2 with
    | [u0, u1, u2, u3, u4], [v0, v1, v2, v3, v4], h1, h2 =>
      simp only [dens, Ty.int, dInt, and_true] at h1 h2
      obtain ⟨rfl, rfl, rfl, rfl, rfl⟩ := h1
      obtain ⟨rfl, rfl, rfl, rfl, rfl⟩ := h2
      exact eqv41 _ _ _ _ _ _ _ _ _ _ w⟩
theorem eqv102 (a0 a1 a2 a3 b0 b1 b2 b3 : Int) (w : World) : (Op.equal 102 (.agg #[.int .i64 a0, .int .i64 a1, .int .i64 a2, .int .i64 a3]) (.agg #[.int .i64 b0, .int .i64 b1, .int .i64 b2, .int .i64 b3])).run Tryz.prog w = .ok (decide (a0 = b0) && (decide (a1 = b1) && (decide (a2 = b2) && decide (a3 = b3)))) w := by
  have hs : Tryz.prog.stoodInHeld 102 = false := by kernel_rfl
  have e3 : ∀ (x y : Int) (w : World), (Op.equalIn 9999 3 (.int .i64 x) (.int .i64 y)).run Tryz.prog w = .ok (decide (x = y)) w := fun x y w => eqIn_int 9998 Tryz.underlying3
  have g3 : ∀ w, (isAgg 3).run Tryz.prog w = .ok false w := fun w => by simp [isAgg, run_underlying Tryz.underlying3]
  unfold Op.equal Op.maxDepth
  rw [Op.equalIn]
  simp only [Sem.run_bind, run_underlying Tryz.underlying102, Result.andThen_ok]
  simp [hs, part, g3, e3, agg37, siz37, eq37]
  by_cases h0 : a0 = b0
  case neg => simp [h0]
  by_cases h1 : a1 = b1
  case neg => simp [h1]
  cases hq : (decide (a2 = b2) && decide (a3 = b3)) <;> simp_all
theorem eqt102 (a0 a1 a2 a3 b0 b1 b2 b3 : Int) : EqT Tryz.prog 102 [Ty.int .i64 a0, Ty.int .i64 a1, Ty.int .i64 a2, Ty.int .i64 a3] [Ty.int .i64 b0, Ty.int .i64 b1, Ty.int .i64 b2, Ty.int .i64 b3] (decide (a0 = b0) && (decide (a1 = b1) && (decide (a2 = b2) && decide (a3 = b3)))) :=
  ⟨by kernel_rfl, fun w M cs ds h1 h2 => by
    obtain ⟨cs⟩ := cs
    obtain ⟨ds⟩ := ds
    match cs, ds, h1, h2 with
    | [u0, u1, u2, u3], [v0, v1, v2, v3], h1, h2 =>
      simp only [dens, Ty.int, dInt, and_true] at h1 h2
      obtain ⟨rfl, rfl, rfl, rfl⟩ := h1
      obtain ⟨rfl, rfl, rfl, rfl⟩ := h2
      exact eqv102 _ _ _ _ _ _ _ _ w⟩
theorem spn_eq (a b : Span) : (decide (a.lo = b.lo) && decide (a.hi = b.hi)) = decide (a = b) := by
  cases a; cases b; rw [Bool.eq_iff_iff]; simp
theorem bin_eq (a b : Bin) : (decide (a.holds = b.holds) && (decide (a.first.lo = b.first.lo) && decide (a.first.hi = b.first.hi))) = decide (a = b) := by
  rw [spn_eq]; cases a; cases b; rw [Bool.eq_iff_iff]; simp
theorem mov_eq (a b : Move) : (decide (a.day = b.day) && (decide (a.src = b.src) && (decide (a.dst = b.dst) && (decide (a.sacks.lo = b.sacks.lo) && decide (a.sacks.hi = b.sacks.hi))))) = decide (a = b) := by
  rw [spn_eq]; cases a; cases b; rw [Bool.eq_iff_iff]; simp
theorem lev_eq (a b : Level) : (decide (a.day = b.day) && (decide (a.bin = b.bin) && (decide (a.sacks.lo = b.sacks.lo) && decide (a.sacks.hi = b.sacks.hi)))) = decide (a = b) := by
  rw [spn_eq]; cases a; cases b; rw [Bool.eq_iff_iff]; simp
end Go.Proofs.YtelbollidfdcjaaGreat

namespace Go.Proofs.YtelbollidfdcjaaGreat
open Go Go.T
set_option maxHeartbeats 2000000
attribute [local irreducible] dInt dBool dSl dPp dPtr dAgg dTup dClo dAny dEx dStr dGd dCells dVec dVs dRow dOp nth Tri Into TOps Ctr bodyPost Exit.then Exit.inBlock Code.wp Code.wpIn dWhen dPa dPe dAo dArr dMp dPm dMap dCJ CtrG CtrI OpY keepPost iterPost bodyPostM roundQ
set_option maxRecDepth 100000 in
theorem c_Equal_int (a b : List Int) : Ctr Tryz.prog 116 [Ty.sl I64 a, Ty.sl I64 b] (Ty.bool (decide (a = b))) := by
  refine fn_intro Tryz.func116 rfl (by decide) Tryz.ntmps116 (by exact Nat.le_of_ble_eq_true rfl) fun w0 M0 => ?_
  refine t_fact (s := 0) rfl rfl sl_len fun ha => ?_
  refine t_fact (s := 1) rfl rfl sl_len fun hb => ?_
  refine t_seq ?_
  refine t_region ?_
  refine asB rfl ?_
  refine r_nil ?_
  refine i_then ?_
  refine t_seq ?_
  refine t_seq ?_
  refine t_region ?_
  refine mvS rfl ?_
  refine r_len rfl rfl rfl ?_
  refine mvS rfl ?_
  refine r_len rfl rfl rfl ?_
  refine r_bin rfl rfl rfl ?_
  refine r_nil ?_
  refine i_then ?_
  refine t_cond_ndec rfl (fun hc1 => ?_) (fun hc1 => ?_)
  ·
    try (simp only [Classical.not_not] at hc1)
    refine t_seq ?_
    refine t_region ?_
    refine asB rfl ?_
    refine r_nil ?_
    refine i_then ?_
    refine t_ret ?_
    refine i_then_ret ?_
    refine i_rp1 rfl rfl ?_
    all_goals skip
    exact ret_eq rfl rfl (congrArg Ty.bool (by rw [eq_comm, decide_eq_false_iff_not]; intro e; subst e; exact hc1 rfl))
  ·
    try (simp only [Classical.not_not] at hc1)
    refine t_skip ?_
    refine i_then ?_
    refine t_seq ?_
    refine t_seq ?_
    refine t_region ?_
    refine mvS rfl ?_
    refine r_len rfl rfl rfl ?_
    refine mvI rfl ?_
    refine r_nil ?_
    refine i_then ?_
    refine t_block ?_
    refine t_loop (fun (k : {k : Nat // a.take k = b.take k}) => live [(0, Ty.sl I64 a), (1, Ty.sl I64 b), (12, Ty.int .i64 a.length), (13, Ty.int .i64 (k.1 : Nat))] []) (fun k => a.length - k.1) (⟨0, by simp⟩) ?_ fun k => ?_
    · (refine Ent.mk' ?_ ?_ <;> (repeat' (first | exact allSub_zero | exact allTags_nil | refine allSub_succ' ?_ (Ty.sub_any _) | refine allSub_succ' ?_ (Ty.sub_refl _))))
    ·
      have hlen : a.length = b.length := by omega
      refine t_seq ?_
      refine t_region ?_
      refine r_bin rfl rfl rfl ?_
      refine r_nil ?_
      refine i_then ?_
      refine t_seq ?_
      refine t_cond_dec rfl (fun hc2 => ?_) (fun hc2 => ?_)
      ·
        try (simp only [Classical.not_not] at hc2)
        refine t_skip ?_
        refine i_then ?_
        refine t_seq ?_
        refine t_block ?_
        refine t_seq ?_
        refine t_region ?_
        refine mvI rfl ?_
        refine asI rfl ?_
        refine r_nil ?_
        refine i_then ?_
        refine t_seq ?_
        refine t_draw mixed rfl ?_
        refine mvS rfl ?_
        refine mvI rfl ?_
        refine r_index_slN rfl rfl rfl rfl rfl rfl (by omega) ?_
        refine r_load_pp rfl rfl rfl rfl ?_
        refine mvS rfl ?_
        refine mvI rfl ?_
        refine r_index_slN rfl rfl rfl rfl rfl rfl (by omega) ?_
        refine r_load_pp rfl rfl rfl rfl ?_
        refine r_bin rfl rfl rfl ?_
        refine r_nil ?_
        refine ⟨by kernel_rfl, ?_⟩
        refine i_then ?_
        refine t_cond_ndec rfl (fun hc3 => ?_) (fun hc3 => ?_)
        ·
          try (simp only [Classical.not_not] at hc3)
          refine t_seq ?_
          refine t_region ?_
          refine asB rfl ?_
          refine r_nil ?_
          refine i_then ?_
          refine t_ret ?_
          refine i_block_ret ?_
          refine i_then_ret ?_
          refine i_then_ret ?_
          refine i_block_ret ?_
          refine i_then_ret ?_
          refine i_rp1 rfl rfl ?_
          all_goals skip
          exact ret_eq rfl rfl (congrArg Ty.bool (by rw [eq_comm, decide_eq_false_iff_not]; exact ne_of_nth (k := k.1) (hc3)))
        ·
          try (simp only [Classical.not_not] at hc3)
          refine t_skip ?_
          refine i_block ?_
          refine i_then ?_
          refine t_region ?_
          refine r_add rfl rfl (by omega) (by omega) ?_
          refine mvI rfl ?_
          refine r_nil ?_
          refine i_round (⟨k.1 + 1, by rw [take_nth (by omega), take_nth (by omega), k.2, hc3]⟩) ?_ (by show a.length - (k.1 + 1) < a.length - k.1; omega)
          (refine Ent.mk' ?_ ?_ <;> (repeat' (first | exact allSub_zero | exact allTags_nil | refine allSub_succ' ?_ (Ty.sub_any _) | refine allSub_succ' ?_ (Ty.sub_refl _))))
          all_goals skip
      ·
        try (simp only [Classical.not_not] at hc2)
        refine t_exit ?_
        refine i_then_exit ?_
        refine i_then_exit ?_
        refine i_block_exit rfl ?_
        refine i_then ?_
        refine t_seq ?_
        refine t_region ?_
        refine asB rfl ?_
        refine r_nil ?_
        refine i_then ?_
        refine t_ret ?_
        refine i_rp1 rfl rfl ?_
        all_goals skip
        exact ret_eq rfl rfl (congrArg Ty.bool (by rw [eq_comm, decide_eq_true_eq]; have := k.2; rwa [List.take_of_length_le (by omega), List.take_of_length_le (by omega)] at this))
set_option maxRecDepth 100000 in
theorem c_Eq_int (a b : List Int) : Ctr Tryz.prog 46 [Ty.sl I64 a, Ty.sl I64 b] (Ty.bool (decide (a = b))) := by
  refine fn_intro Tryz.func46 rfl (by decide) Tryz.ntmps46 (by exact Nat.le_of_ble_eq_true rfl) fun w0 M0 => ?_
  refine t_seq ?_
  refine t_region ?_
  refine asB rfl ?_
  refine r_nil ?_
  refine i_then ?_
  refine t_seq ?_
  refine t_region ?_
  refine mvS rfl ?_
  refine mvS rfl ?_
  refine r_call (c_Equal_int _ _) rfl rfl rfl rfl rfl ?_
  refine asB rfl ?_
  refine r_nil ?_
  refine i_then ?_
  refine t_ret ?_
  refine i_rp1 rfl rfl ?_
  all_goals exact ret_refl rfl rfl
set_option maxRecDepth 100000 in
theorem c_Equal_spn (a b : List Span) : Ctr Tryz.prog 123 [Ty.sl SpanE a, Ty.sl SpanE b] (Ty.bool (decide (a = b))) := by
  refine fn_intro Tryz.func123 rfl (by decide) Tryz.ntmps123 (by exact Nat.le_of_ble_eq_true rfl) fun w0 M0 => ?_
  refine t_fact (s := 0) rfl rfl sl_len fun ha => ?_
  refine t_fact (s := 1) rfl rfl sl_len fun hb => ?_
  refine t_seq ?_
  refine t_region ?_
  refine asB rfl ?_
  refine r_nil ?_
  refine i_then ?_
  refine t_seq ?_
  refine t_seq ?_
  refine t_region ?_
  refine mvS rfl ?_
  refine r_len rfl rfl rfl ?_
  refine mvS rfl ?_
  refine r_len rfl rfl rfl ?_
  refine r_bin rfl rfl rfl ?_
  refine r_nil ?_
  refine i_then ?_
  refine t_cond_ndec rfl (fun hc1 => ?_) (fun hc1 => ?_)
  ·
    try (simp only [Classical.not_not] at hc1)
    refine t_seq ?_
    refine t_region ?_
    refine asB rfl ?_
    refine r_nil ?_
    refine i_then ?_
    refine t_ret ?_
    refine i_then_ret ?_
    refine i_rp1 rfl rfl ?_
    all_goals skip
    exact ret_eq rfl rfl (congrArg Ty.bool (by rw [eq_comm, decide_eq_false_iff_not]; intro e; subst e; exact hc1 rfl))
  ·
    try (simp only [Classical.not_not] at hc1)
    refine t_skip ?_
    refine i_then ?_
    refine t_seq ?_
    refine t_seq ?_
    refine t_region ?_
    refine mvS rfl ?_
    refine r_len rfl rfl rfl ?_
    refine mvI rfl ?_
    refine r_nil ?_
    refine i_then ?_
    refine t_block ?_
    refine t_loop (fun (k : {k : Nat // a.take k = b.take k}) => live [(0, Ty.sl SpanE a), (1, Ty.sl SpanE b), (12, Ty.int .i64 a.length), (13, Ty.int .i64 (k.1 : Nat))] []) (fun k => a.length - k.1) (⟨0, by simp⟩) ?_ fun k => ?_
    · (refine Ent.mk' ?_ ?_ <;> (repeat' (first | exact allSub_zero | exact allTags_nil | refine allSub_succ' ?_ (Ty.sub_any _) | refine allSub_succ' ?_ (Ty.sub_refl _))))
    ·
      have hlen : a.length = b.length := by omega
      refine t_seq ?_
      refine t_region ?_
      refine r_bin rfl rfl rfl ?_
      refine r_nil ?_
      refine i_then ?_
      refine t_seq ?_
      refine t_cond_dec rfl (fun hc2 => ?_) (fun hc2 => ?_)
      ·
        try (simp only [Classical.not_not] at hc2)
        refine t_skip ?_
        refine i_then ?_
        refine t_seq ?_
        refine t_block ?_
        refine t_seq ?_
        refine t_region ?_
        refine mvI rfl ?_
        refine asI rfl ?_
        refine r_nil ?_
        refine i_then ?_
        refine t_seq ?_
        refine t_draw mixed rfl ?_
        refine mvS rfl ?_
        refine mvI rfl ?_
        refine r_index_slN rfl rfl rfl rfl rfl rfl (by omega) ?_
        refine r_load_ppN rfl rfl rfl (by exact Nat.le_of_ble_eq_true rfl) ?_
        refine mvS rfl ?_
        refine mvI rfl ?_
        refine r_index_slN rfl rfl rfl rfl rfl rfl (by omega) ?_
        refine r_load_ppN rfl rfl rfl (by exact Nat.le_of_ble_eq_true rfl) ?_
        refine r_neq_A (eqt37 _ _ _ _) rfl rfl ?_
        refine r_nil ?_
        refine ⟨by kernel_rfl, ?_⟩
        refine i_then ?_
        refine t_cond rfl (fun hc3 => ?_) (fun hc3 => ?_)
        ·
          try (simp only [Classical.not_not] at hc3)
          refine t_seq ?_
          refine t_region ?_
          refine asB rfl ?_
          refine r_nil ?_
          refine i_then ?_
          refine t_ret ?_
          refine i_block_ret ?_
          refine i_then_ret ?_
          refine i_then_ret ?_
          refine i_block_ret ?_
          refine i_then_ret ?_
          refine i_rp1 rfl rfl ?_
          all_goals skip
          exact ret_eq rfl rfl (congrArg Ty.bool (by rw [eq_comm, decide_eq_false_iff_not]; exact ne_of_nth (k := k.1) (of_decide_eq_false (by rw [← spn_eq]; exact not_b hc3))))
        ·
          try (simp only [Classical.not_not] at hc3)
          refine t_skip ?_
          refine i_block ?_
          refine i_then ?_
          refine t_region ?_
          refine r_add rfl rfl (by omega) (by omega) ?_
          refine mvI rfl ?_
          refine r_nil ?_
          refine i_round (⟨k.1 + 1, by have e : nth a k.1 = nth b k.1 := of_decide_eq_true (by rw [← spn_eq]; exact not_not_b hc3); rw [take_nth (by omega), take_nth (by omega), k.2, e]⟩) ?_ (by show a.length - (k.1 + 1) < a.length - k.1; omega)
          (refine Ent.mk' ?_ ?_ <;> (repeat' (first | exact allSub_zero | exact allTags_nil | refine allSub_succ' ?_ (Ty.sub_any _) | refine allSub_succ' ?_ (Ty.sub_refl _))))
          all_goals skip
      ·
        try (simp only [Classical.not_not] at hc2)
        refine t_exit ?_
        refine i_then_exit ?_
        refine i_then_exit ?_
        refine i_block_exit rfl ?_
        refine i_then ?_
        refine t_seq ?_
        refine t_region ?_
        refine asB rfl ?_
        refine r_nil ?_
        refine i_then ?_
        refine t_ret ?_
        refine i_rp1 rfl rfl ?_
        all_goals skip
        exact ret_eq rfl rfl (congrArg Ty.bool (by rw [eq_comm, decide_eq_true_eq]; have := k.2; rwa [List.take_of_length_le (by omega), List.take_of_length_le (by omega)] at this))
set_option maxRecDepth 100000 in
theorem c_Eq_spn (a b : List Span) : Ctr Tryz.prog 50 [Ty.sl SpanE a, Ty.sl SpanE b] (Ty.bool (decide (a = b))) := by
  refine fn_intro Tryz.func50 rfl (by decide) Tryz.ntmps50 (by exact Nat.le_of_ble_eq_true rfl) fun w0 M0 => ?_
  refine t_seq ?_
  refine t_region ?_
  refine asB rfl ?_
  refine r_nil ?_
  refine i_then ?_
  refine t_seq ?_
  refine t_region ?_
  refine mvS rfl ?_
  refine mvS rfl ?_
  refine r_call (c_Equal_spn _ _) rfl rfl rfl rfl rfl ?_
  refine asB rfl ?_
  refine r_nil ?_
  refine i_then ?_
  refine t_ret ?_
  refine i_rp1 rfl rfl ?_
  all_goals exact ret_refl rfl rfl
set_option maxRecDepth 100000 in
theorem c_Dup_bin (l : List Bin) (h : l.length ≤ 1000) : Ctr Tryz.prog 19 [Ty.sl BinE l] (Ty.sl BinE l) := by
  refine fn_intro Tryz.func19 rfl (by decide) Tryz.ntmps19 (by exact Nat.le_of_ble_eq_true rfl) fun w0 M0 => ?_
  refine t_seq ?_
  refine t_region ?_
  refine asX rfl ?_
  refine r_nil ?_
  refine i_then ?_
  refine t_seq ?_
  refine t_region ?_
  refine mvS rfl ?_
  refine r_len rfl rfl rfl ?_
  refine r_make0 (E := BinE) rfl rfl rfl rfl rfl rfl rfl (by decide) rfl (by omega) (by (dsimp only; omega)) (by omega) ?_
  refine mvS rfl ?_
  refine r_append rfl rfl (by decide) rfl rfl rfl rfl rfl rfl (by decide) (by (simp <;> omega)) (by (simp <;> omega)) ?_
  refine asR rfl ?_
  refine r_nil ?_
  refine i_then ?_
  refine t_ret ?_
  refine i_rp1 rfl rfl ?_
  all_goals exact ret_row (by decide)
set_option maxRecDepth 100000 in
theorem c_Equal_bin (a b : List Bin) : Ctr Tryz.prog 167 [Ty.sl BinE a, Ty.sl BinE b] (Ty.bool (decide (a = b))) := by
  refine fn_intro Tryz.func167 rfl (by decide) Tryz.ntmps167 (by exact Nat.le_of_ble_eq_true rfl) fun w0 M0 => ?_
  refine t_fact (s := 0) rfl rfl sl_len fun ha => ?_
  refine t_fact (s := 1) rfl rfl sl_len fun hb => ?_
  refine t_seq ?_
  refine t_region ?_
  refine asB rfl ?_
  refine r_nil ?_
  refine i_then ?_
  refine t_seq ?_
  refine t_seq ?_
  refine t_region ?_
  refine mvS rfl ?_
  refine r_len rfl rfl rfl ?_
  refine mvS rfl ?_
  refine r_len rfl rfl rfl ?_
  refine r_bin rfl rfl rfl ?_
  refine r_nil ?_
  refine i_then ?_
  refine t_cond_ndec rfl (fun hc1 => ?_) (fun hc1 => ?_)
  ·
    try (simp only [Classical.not_not] at hc1)
    refine t_seq ?_
    refine t_region ?_
    refine asB rfl ?_
    refine r_nil ?_
    refine i_then ?_
    refine t_ret ?_
    refine i_then_ret ?_
    refine i_rp1 rfl rfl ?_
    all_goals skip
    exact ret_eq rfl rfl (congrArg Ty.bool (by rw [eq_comm, decide_eq_false_iff_not]; intro e; subst e; exact hc1 rfl))
  ·
    try (simp only [Classical.not_not] at hc1)
    refine t_skip ?_
    refine i_then ?_
    refine t_seq ?_
    refine t_seq ?_
    refine t_region ?_
    refine mvS rfl ?_
    refine r_len rfl rfl rfl ?_
    refine mvI rfl ?_
    refine r_nil ?_
    refine i_then ?_
    refine t_block ?_
    refine t_loop (fun (k : {k : Nat // a.take k = b.take k}) => live [(0, Ty.sl BinE a), (1, Ty.sl BinE b), (12, Ty.int .i64 a.length), (13, Ty.int .i64 (k.1 : Nat))] []) (fun k => a.length - k.1) (⟨0, by simp⟩) ?_ fun k => ?_
    · (refine Ent.mk' ?_ ?_ <;> (repeat' (first | exact allSub_zero | exact allTags_nil | refine allSub_succ' ?_ (Ty.sub_any _) | refine allSub_succ' ?_ (Ty.sub_refl _))))
    ·
      have hlen : a.length = b.length := by omega
      refine t_seq ?_
      refine t_region ?_
      refine r_bin rfl rfl rfl ?_
      refine r_nil ?_
      refine i_then ?_
      refine t_seq ?_
      refine t_cond_dec rfl (fun hc2 => ?_) (fun hc2 => ?_)
      ·
        try (simp only [Classical.not_not] at hc2)
        refine t_skip ?_
        refine i_then ?_
        refine t_seq ?_
        refine t_block ?_
        refine t_seq ?_
        refine t_region ?_
        refine mvI rfl ?_
        refine asI rfl ?_
        refine r_nil ?_
        refine i_then ?_
        refine t_seq ?_
        refine t_draw mixed rfl ?_
        refine mvS rfl ?_
        refine mvI rfl ?_
        refine r_index_slN rfl rfl rfl rfl rfl rfl (by omega) ?_
        refine r_load_ppN rfl rfl rfl (by exact Nat.le_of_ble_eq_true rfl) ?_
        refine mvS rfl ?_
        refine mvI rfl ?_
        refine r_index_slN rfl rfl rfl rfl rfl rfl (by omega) ?_
        refine r_load_ppN rfl rfl rfl (by exact Nat.le_of_ble_eq_true rfl) ?_
        refine r_neq_A (eqt39 _ _ _ _ _ _) rfl rfl ?_
        refine r_nil ?_
        refine ⟨by kernel_rfl, ?_⟩
        refine i_then ?_
        refine t_cond rfl (fun hc3 => ?_) (fun hc3 => ?_)
        ·
          try (simp only [Classical.not_not] at hc3)
          refine t_seq ?_
          refine t_region ?_
          refine asB rfl ?_
          refine r_nil ?_
          refine i_then ?_
          refine t_ret ?_
          refine i_block_ret ?_
          refine i_then_ret ?_
          refine i_then_ret ?_
          refine i_block_ret ?_
          refine i_then_ret ?_
          refine i_rp1 rfl rfl ?_
          all_goals skip
          exact ret_eq rfl rfl (congrArg Ty.bool (by rw [eq_comm, decide_eq_false_iff_not]; exact ne_of_nth (k := k.1) (of_decide_eq_false (by rw [← bin_eq]; exact not_b hc3))))
        ·
          try (simp only [Classical.not_not] at hc3)
          refine t_skip ?_
          refine i_block ?_
          refine i_then ?_
          refine t_region ?_
          refine r_add rfl rfl (by omega) (by omega) ?_
          refine mvI rfl ?_
          refine r_nil ?_
          refine i_round (⟨k.1 + 1, by have e : nth a k.1 = nth b k.1 := of_decide_eq_true (by rw [← bin_eq]; exact not_not_b hc3); rw [take_nth (by omega), take_nth (by omega), k.2, e]⟩) ?_ (by show a.length - (k.1 + 1) < a.length - k.1; omega)
          (refine Ent.mk' ?_ ?_ <;> (repeat' (first | exact allSub_zero | exact allTags_nil | refine allSub_succ' ?_ (Ty.sub_any _) | refine allSub_succ' ?_ (Ty.sub_refl _))))
          all_goals skip
      ·
        try (simp only [Classical.not_not] at hc2)
        refine t_exit ?_
        refine i_then_exit ?_
        refine i_then_exit ?_
        refine i_block_exit rfl ?_
        refine i_then ?_
        refine t_seq ?_
        refine t_region ?_
        refine asB rfl ?_
        refine r_nil ?_
        refine i_then ?_
        refine t_ret ?_
        refine i_rp1 rfl rfl ?_
        all_goals skip
        exact ret_eq rfl rfl (congrArg Ty.bool (by rw [eq_comm, decide_eq_true_eq]; have := k.2; rwa [List.take_of_length_le (by omega), List.take_of_length_le (by omega)] at this))
set_option maxRecDepth 100000 in
theorem c_Eq_bin (a b : List Bin) : Ctr Tryz.prog 103 [Ty.sl BinE a, Ty.sl BinE b] (Ty.bool (decide (a = b))) := by
  refine fn_intro Tryz.func103 rfl (by decide) Tryz.ntmps103 (by exact Nat.le_of_ble_eq_true rfl) fun w0 M0 => ?_
  refine t_seq ?_
  refine t_region ?_
  refine asB rfl ?_
  refine r_nil ?_
  refine i_then ?_
  refine t_seq ?_
  refine t_region ?_
  refine mvS rfl ?_
  refine mvS rfl ?_
  refine r_call (c_Equal_bin _ _) rfl rfl rfl rfl rfl ?_
  refine asB rfl ?_
  refine r_nil ?_
  refine i_then ?_
  refine t_ret ?_
  refine i_rp1 rfl rfl ?_
  all_goals exact ret_refl rfl rfl
set_option maxRecDepth 100000 in
theorem c_Dup_mov (l : List Move) (h : l.length ≤ 1000) : Ctr Tryz.prog 95 [Ty.sl MoveE l] (Ty.sl MoveE l) := by
  refine fn_intro Tryz.func95 rfl (by decide) Tryz.ntmps95 (by exact Nat.le_of_ble_eq_true rfl) fun w0 M0 => ?_
  refine t_seq ?_
  refine t_region ?_
  refine asX rfl ?_
  refine r_nil ?_
  refine i_then ?_
  refine t_seq ?_
  refine t_region ?_
  refine mvS rfl ?_
  refine r_len rfl rfl rfl ?_
  refine r_make0 (E := MoveE) rfl rfl rfl rfl rfl rfl rfl (by decide) rfl (by omega) (by (dsimp only; omega)) (by omega) ?_
  refine mvS rfl ?_
  refine r_append rfl rfl (by decide) rfl rfl rfl rfl rfl rfl (by decide) (by (simp <;> omega)) (by (simp <;> omega)) ?_
  refine asR rfl ?_
  refine r_nil ?_
  refine i_then ?_
  refine t_ret ?_
  refine i_rp1 rfl rfl ?_
  all_goals exact ret_row (by decide)
set_option maxRecDepth 100000 in
theorem c_Equal_mov (a b : List Move) : Ctr Tryz.prog 168 [Ty.sl MoveE a, Ty.sl MoveE b] (Ty.bool (decide (a = b))) := by
  refine fn_intro Tryz.func168 rfl (by decide) Tryz.ntmps168 (by exact Nat.le_of_ble_eq_true rfl) fun w0 M0 => ?_
  refine t_fact (s := 0) rfl rfl sl_len fun ha => ?_
  refine t_fact (s := 1) rfl rfl sl_len fun hb => ?_
  refine t_seq ?_
  refine t_region ?_
  refine asB rfl ?_
  refine r_nil ?_
  refine i_then ?_
  refine t_seq ?_
  refine t_seq ?_
  refine t_region ?_
  refine mvS rfl ?_
  refine r_len rfl rfl rfl ?_
  refine mvS rfl ?_
  refine r_len rfl rfl rfl ?_
  refine r_bin rfl rfl rfl ?_
  refine r_nil ?_
  refine i_then ?_
  refine t_cond_ndec rfl (fun hc1 => ?_) (fun hc1 => ?_)
  ·
    try (simp only [Classical.not_not] at hc1)
    refine t_seq ?_
    refine t_region ?_
    refine asB rfl ?_
    refine r_nil ?_
    refine i_then ?_
    refine t_ret ?_
    refine i_then_ret ?_
    refine i_rp1 rfl rfl ?_
    all_goals skip
    exact ret_eq rfl rfl (congrArg Ty.bool (by rw [eq_comm, decide_eq_false_iff_not]; intro e; subst e; exact hc1 rfl))
  ·
    try (simp only [Classical.not_not] at hc1)
    refine t_skip ?_
    refine i_then ?_
    refine t_seq ?_
    refine t_seq ?_
    refine t_region ?_
    refine mvS rfl ?_
    refine r_len rfl rfl rfl ?_
    refine mvI rfl ?_
    refine r_nil ?_
    refine i_then ?_
    refine t_block ?_
    refine t_loop (fun (k : {k : Nat // a.take k = b.take k}) => live [(0, Ty.sl MoveE a), (1, Ty.sl MoveE b), (12, Ty.int .i64 a.length), (13, Ty.int .i64 (k.1 : Nat))] []) (fun k => a.length - k.1) (⟨0, by simp⟩) ?_ fun k => ?_
    · (refine Ent.mk' ?_ ?_ <;> (repeat' (first | exact allSub_zero | exact allTags_nil | refine allSub_succ' ?_ (Ty.sub_any _) | refine allSub_succ' ?_ (Ty.sub_refl _))))
    ·
      have hlen : a.length = b.length := by omega
      refine t_seq ?_
      refine t_region ?_
      refine r_bin rfl rfl rfl ?_
      refine r_nil ?_
      refine i_then ?_
      refine t_seq ?_
      refine t_cond_dec rfl (fun hc2 => ?_) (fun hc2 => ?_)
      ·
        try (simp only [Classical.not_not] at hc2)
        refine t_skip ?_
        refine i_then ?_
        refine t_seq ?_
        refine t_block ?_
        refine t_seq ?_
        refine t_region ?_
        refine mvI rfl ?_
        refine asI rfl ?_
        refine r_nil ?_
        refine i_then ?_
        refine t_seq ?_
        refine t_draw mixed rfl ?_
        refine mvS rfl ?_
        refine mvI rfl ?_
        refine r_index_slN rfl rfl rfl rfl rfl rfl (by omega) ?_
        refine r_load_ppN rfl rfl rfl (by exact Nat.le_of_ble_eq_true rfl) ?_
        refine mvS rfl ?_
        refine mvI rfl ?_
        refine r_index_slN rfl rfl rfl rfl rfl rfl (by omega) ?_
        refine r_load_ppN rfl rfl rfl (by exact Nat.le_of_ble_eq_true rfl) ?_
        refine r_neq_A (eqt41 _ _ _ _ _ _ _ _ _ _) rfl rfl ?_
        refine r_nil ?_
        refine ⟨by kernel_rfl, ?_⟩
        refine i_then ?_
        refine t_cond rfl (fun hc3 => ?_) (fun hc3 => ?_)
        ·
          try (simp only [Classical.not_not] at hc3)
          refine t_seq ?_
          refine t_region ?_
          refine asB rfl ?_
          refine r_nil ?_
          refine i_then ?_
          refine t_ret ?_
          refine i_block_ret ?_
          refine i_then_ret ?_
          refine i_then_ret ?_
          refine i_block_ret ?_
          refine i_then_ret ?_
          refine i_rp1 rfl rfl ?_
          all_goals skip
          exact ret_eq rfl rfl (congrArg Ty.bool (by rw [eq_comm, decide_eq_false_iff_not]; exact ne_of_nth (k := k.1) (of_decide_eq_false (by rw [← mov_eq]; exact not_b hc3))))
        ·
          try (simp only [Classical.not_not] at hc3)
          refine t_skip ?_
          refine i_block ?_
          refine i_then ?_
          refine t_region ?_
          refine r_add rfl rfl (by omega) (by omega) ?_
          refine mvI rfl ?_
          refine r_nil ?_
          refine i_round (⟨k.1 + 1, by have e : nth a k.1 = nth b k.1 := of_decide_eq_true (by rw [← mov_eq]; exact not_not_b hc3); rw [take_nth (by omega), take_nth (by omega), k.2, e]⟩) ?_ (by show a.length - (k.1 + 1) < a.length - k.1; omega)
          (refine Ent.mk' ?_ ?_ <;> (repeat' (first | exact allSub_zero | exact allTags_nil | refine allSub_succ' ?_ (Ty.sub_any _) | refine allSub_succ' ?_ (Ty.sub_refl _))))
          all_goals skip
      ·
        try (simp only [Classical.not_not] at hc2)
        refine t_exit ?_
        refine i_then_exit ?_
        refine i_then_exit ?_
        refine i_block_exit rfl ?_
        refine i_then ?_
        refine t_seq ?_
        refine t_region ?_
        refine asB rfl ?_
        refine r_nil ?_
        refine i_then ?_
        refine t_ret ?_
        refine i_rp1 rfl rfl ?_
        all_goals skip
        exact ret_eq rfl rfl (congrArg Ty.bool (by rw [eq_comm, decide_eq_true_eq]; have := k.2; rwa [List.take_of_length_le (by omega), List.take_of_length_le (by omega)] at this))
set_option maxRecDepth 100000 in
theorem c_Eq_mov (a b : List Move) : Ctr Tryz.prog 104 [Ty.sl MoveE a, Ty.sl MoveE b] (Ty.bool (decide (a = b))) := by
  refine fn_intro Tryz.func104 rfl (by decide) Tryz.ntmps104 (by exact Nat.le_of_ble_eq_true rfl) fun w0 M0 => ?_
  refine t_seq ?_
  refine t_region ?_
  refine asB rfl ?_
  refine r_nil ?_
  refine i_then ?_
  refine t_seq ?_
  refine t_region ?_
  refine mvS rfl ?_
  refine mvS rfl ?_
  refine r_call (c_Equal_mov _ _) rfl rfl rfl rfl rfl ?_
  refine asB rfl ?_
  refine r_nil ?_
  refine i_then ?_
  refine t_ret ?_
  refine i_rp1 rfl rfl ?_
  all_goals exact ret_refl rfl rfl
set_option maxRecDepth 100000 in
theorem c_Dup_lev (l : List Level) (h : l.length ≤ 1000) : Ctr Tryz.prog 96 [Ty.sl LevelE l] (Ty.sl LevelE l) := by
  refine fn_intro Tryz.func96 rfl (by decide) Tryz.ntmps96 (by exact Nat.le_of_ble_eq_true rfl) fun w0 M0 => ?_
  refine t_seq ?_
  refine t_region ?_
  refine asX rfl ?_
  refine r_nil ?_
  refine i_then ?_
  refine t_seq ?_
  refine t_region ?_
  refine mvS rfl ?_
  refine r_len rfl rfl rfl ?_
  refine r_make0 (E := LevelE) rfl rfl rfl rfl rfl rfl rfl (by decide) rfl (by omega) (by (dsimp only; omega)) (by omega) ?_
  refine mvS rfl ?_
  refine r_append rfl rfl (by decide) rfl rfl rfl rfl rfl rfl (by decide) (by (simp <;> omega)) (by (simp <;> omega)) ?_
  refine asR rfl ?_
  refine r_nil ?_
  refine i_then ?_
  refine t_ret ?_
  refine i_rp1 rfl rfl ?_
  all_goals exact ret_row (by decide)
set_option maxRecDepth 100000 in
theorem c_Equal_lev (a b : List Level) : Ctr Tryz.prog 169 [Ty.sl LevelE a, Ty.sl LevelE b] (Ty.bool (decide (a = b))) := by
  refine fn_intro Tryz.func169 rfl (by decide) Tryz.ntmps169 (by exact Nat.le_of_ble_eq_true rfl) fun w0 M0 => ?_
  refine t_fact (s := 0) rfl rfl sl_len fun ha => ?_
  refine t_fact (s := 1) rfl rfl sl_len fun hb => ?_
  refine t_seq ?_
  refine t_region ?_
  refine asB rfl ?_
  refine r_nil ?_
  refine i_then ?_
  refine t_seq ?_
  refine t_seq ?_
  refine t_region ?_
  refine mvS rfl ?_
  refine r_len rfl rfl rfl ?_
  refine mvS rfl ?_
  refine r_len rfl rfl rfl ?_
  refine r_bin rfl rfl rfl ?_
  refine r_nil ?_
  refine i_then ?_
  refine t_cond_ndec rfl (fun hc1 => ?_) (fun hc1 => ?_)
  ·
    try (simp only [Classical.not_not] at hc1)
    refine t_seq ?_
    refine t_region ?_
    refine asB rfl ?_
    refine r_nil ?_
    refine i_then ?_
    refine t_ret ?_
    refine i_then_ret ?_
    refine i_rp1 rfl rfl ?_
    all_goals skip
    exact ret_eq rfl rfl (congrArg Ty.bool (by rw [eq_comm, decide_eq_false_iff_not]; intro e; subst e; exact hc1 rfl))
  ·
    try (simp only [Classical.not_not] at hc1)
    refine t_skip ?_
    refine i_then ?_
    refine t_seq ?_
    refine t_seq ?_
    refine t_region ?_
    refine mvS rfl ?_
    refine r_len rfl rfl rfl ?_
    refine mvI rfl ?_
    refine r_nil ?_
    refine i_then ?_
    refine t_block ?_
    refine t_loop (fun (k : {k : Nat // a.take k = b.take k}) => live [(0, Ty.sl LevelE a), (1, Ty.sl LevelE b), (12, Ty.int .i64 a.length), (13, Ty.int .i64 (k.1 : Nat))] []) (fun k => a.length - k.1) (⟨0, by simp⟩) ?_ fun k => ?_
    · (refine Ent.mk' ?_ ?_ <;> (repeat' (first | exact allSub_zero | exact allTags_nil | refine allSub_succ' ?_ (Ty.sub_any _) | refine allSub_succ' ?_ (Ty.sub_refl _))))
    ·
      have hlen : a.length = b.length := by omega
      refine t_seq ?_
      refine t_region ?_
      refine r_bin rfl rfl rfl ?_
      refine r_nil ?_
      refine i_then ?_
      refine t_seq ?_
      refine t_cond_dec rfl (fun hc2 => ?_) (fun hc2 => ?_)
      ·
        try (simp only [Classical.not_not] at hc2)
        refine t_skip ?_
        refine i_then ?_
        refine t_seq ?_
        refine t_block ?_
        refine t_seq ?_
        refine t_region ?_
        refine mvI rfl ?_
        refine asI rfl ?_
        refine r_nil ?_
        refine i_then ?_
        refine t_seq ?_
        refine t_draw mixed rfl ?_
        refine mvS rfl ?_
        refine mvI rfl ?_
        refine r_index_slN rfl rfl rfl rfl rfl rfl (by omega) ?_
        refine r_load_ppN rfl rfl rfl (by exact Nat.le_of_ble_eq_true rfl) ?_
        refine mvS rfl ?_
        refine mvI rfl ?_
        refine r_index_slN rfl rfl rfl rfl rfl rfl (by omega) ?_
        refine r_load_ppN rfl rfl rfl (by exact Nat.le_of_ble_eq_true rfl) ?_
        refine r_neq_A (eqt102 _ _ _ _ _ _ _ _) rfl rfl ?_
        refine r_nil ?_
        refine ⟨by kernel_rfl, ?_⟩
        refine i_then ?_
        refine t_cond rfl (fun hc3 => ?_) (fun hc3 => ?_)
        ·
          try (simp only [Classical.not_not] at hc3)
          refine t_seq ?_
          refine t_region ?_
          refine asB rfl ?_
          refine r_nil ?_
          refine i_then ?_
          refine t_ret ?_
          refine i_block_ret ?_
          refine i_then_ret ?_
          refine i_then_ret ?_
          refine i_block_ret ?_
          refine i_then_ret ?_
          refine i_rp1 rfl rfl ?_
          all_goals skip
          exact ret_eq rfl rfl (congrArg Ty.bool (by rw [eq_comm, decide_eq_false_iff_not]; exact ne_of_nth (k := k.1) (of_decide_eq_false (by rw [← lev_eq]; exact not_b hc3))))
        ·
          try (simp only [Classical.not_not] at hc3)
          refine t_skip ?_
          refine i_block ?_
          refine i_then ?_
          refine t_region ?_
          refine r_add rfl rfl (by omega) (by omega) ?_
          refine mvI rfl ?_
          refine r_nil ?_
          refine i_round (⟨k.1 + 1, by have e : nth a k.1 = nth b k.1 := of_decide_eq_true (by rw [← lev_eq]; exact not_not_b hc3); rw [take_nth (by omega), take_nth (by omega), k.2, e]⟩) ?_ (by show a.length - (k.1 + 1) < a.length - k.1; omega)
          (refine Ent.mk' ?_ ?_ <;> (repeat' (first | exact allSub_zero | exact allTags_nil | refine allSub_succ' ?_ (Ty.sub_any _) | refine allSub_succ' ?_ (Ty.sub_refl _))))
          all_goals skip
      ·
        try (simp only [Classical.not_not] at hc2)
        refine t_exit ?_
        refine i_then_exit ?_
        refine i_then_exit ?_
        refine i_block_exit rfl ?_
        refine i_then ?_
        refine t_seq ?_
        refine t_region ?_
        refine asB rfl ?_
        refine r_nil ?_
        refine i_then ?_
        refine t_ret ?_
        refine i_rp1 rfl rfl ?_
        all_goals skip
        exact ret_eq rfl rfl (congrArg Ty.bool (by rw [eq_comm, decide_eq_true_eq]; have := k.2; rwa [List.take_of_length_le (by omega), List.take_of_length_le (by omega)] at this))
set_option maxRecDepth 100000 in
theorem c_Eq_lev (a b : List Level) : Ctr Tryz.prog 105 [Ty.sl LevelE a, Ty.sl LevelE b] (Ty.bool (decide (a = b))) := by
  refine fn_intro Tryz.func105 rfl (by decide) Tryz.ntmps105 (by exact Nat.le_of_ble_eq_true rfl) fun w0 M0 => ?_
  refine t_seq ?_
  refine t_region ?_
  refine asB rfl ?_
  refine r_nil ?_
  refine i_then ?_
  refine t_seq ?_
  refine t_region ?_
  refine mvS rfl ?_
  refine mvS rfl ?_
  refine r_call (c_Equal_lev _ _) rfl rfl rfl rfl rfl ?_
  refine asB rfl ?_
  refine r_nil ?_
  refine i_then ?_
  refine t_ret ?_
  refine i_rp1 rfl rfl ?_
  all_goals exact ret_refl rfl rfl
end Go.Proofs.YtelbollidfdcjaaGreat

namespace Go.Proofs.YtelbollidfdcjaaGreat
open Go Go.T
def two (k : Nat) : Yard := ⟨2, [⟨100, ⟨20, 30⟩⟩, ⟨50, ⟨0, 0⟩⟩], [⟨0, -1, 0, ⟨40, 60⟩⟩, ⟨1, 0, 1, ⟨10, 40⟩⟩, ⟨1, 1, -1, ⟨5, 10⟩⟩], ([⟨2, 1, ⟨20, 25⟩⟩, ⟨2, 0, ⟨10, 24⟩⟩] : List Level).take k⟩
def amT (p q u v w : Int) : Amts := ⟨[p, q], [u, v, w]⟩
section
variable {k : Nat} {c : Nat → Bool} {a : Amts} {p q u v w : Int}
theorem two_chk (h : k ≤ 2) : checkY (two k) = 0 := by
  have : k = 0 ∨ k = 1 ∨ k = 2 := by omega
  rcases this with rfl | rfl | rfl <;> decide
theorem two_right (h : k ≤ 2) : (two k).Right := chk_right (two_chk h)
theorem two_am (h : Lens (two k) a) : ∃ p q u v w, a = amT p q u v w := by
  obtain ⟨f, m⟩ := a
  have h1 : f.length = 2 := h.first
  have h2 : m.length = 3 := h.moved
  match f, m, h1, h2 with
  | [p, q], [u, v, w], _, _ => exact ⟨p, q, u, v, w, rfl⟩
theorem two_00 : contY (two k) (amT p q u v w) 0 0 = p := by simp [contY, sumN, dayT, ind, nth, two, amT]
theorem two_01 : contY (two k) (amT p q u v w) 0 1 = p + u := by simp [contY, sumN, dayT, ind, nth, two, amT]
theorem two_02 : contY (two k) (amT p q u v w) 0 2 = p + u - v := by simp [contY, sumN, dayT, ind, nth, two, amT]; omega
theorem two_10 : contY (two k) (amT p q u v w) 1 0 = q := by simp [contY, sumN, dayT, ind, nth, two, amT]
theorem two_11 : contY (two k) (amT p q u v w) 1 1 = q := by simp [contY, sumN, dayT, ind, nth, two, amT]
theorem two_12 : contY (two k) (amT p q u v w) 1 2 = q + v - w := by simp [contY, sumN, dayT, ind, nth, two, amT]; omega
structure TwoA (k : Nat) (c : Nat → Bool) (p q u v w : Int) : Prop where
  hp : 20 ≤ p ∧ p ≤ 30
  hq : q = 0
  hu : 40 ≤ u ∧ u ≤ 60
  hv : 10 ≤ v ∧ v ≤ 40
  hw : 5 ≤ w ∧ w ≤ 10
  l0 : 0 < k → c 0 = true → 20 ≤ v - w ∧ v - w ≤ 25
  l1 : 1 < k → c 1 = true → 10 ≤ p + u - v ∧ p + u - v ≤ 24
theorem two_fits (hk : k ≤ 2) : FitsC (two k) c (amT p q u v w) ↔ TwoA k c p q u v w := by
  constructor
  · intro h
    have f0 := h.first 0 (Nat.zero_lt_succ _)
    have f1 := h.first 1 (show 1 < 2 by decide)
    have m0 := h.moved 0 (Nat.zero_lt_succ _)
    have m1 := h.moved 1 (show 1 < 3 by decide)
    have m2 := h.moved 2 (show 2 < 3 by decide)
    have hq : (0 : Int) ≤ q ∧ q ≤ 0 := f1
    refine ⟨f0, by omega, m0, m1, m2, fun h0 hc => ?_, fun h1 hc => ?_⟩
    · have e : nth (two k).levels 0 = ⟨2, 1, ⟨20, 25⟩⟩ := by
        obtain ⟨j, rfl⟩ : ∃ j, k = j + 1 := ⟨k - 1, by omega⟩
        rfl
      have hl : 0 < (two k).levels.length := by
        obtain ⟨j, rfl⟩ : ∃ j, k = j + 1 := ⟨k - 1, by omega⟩
        show 0 < (List.take (j + 1) _).length
        rw [List.take_succ_cons, List.length_cons]; omega
      have := h.level 0 hl hc
      rw [e] at this
      have := this
      change 20 ≤ contY _ _ 1 2 ∧ contY _ _ 1 2 ≤ 25 at this
      rw [two_12] at this
      omega
    · obtain rfl : k = 2 := by omega
      have := h.level 1 (by decide) hc
      change 10 ≤ contY _ _ 0 2 ∧ contY _ _ 0 2 ≤ 24 at this
      rw [two_02] at this
      exact this
  · intro ⟨hp, hq, hu, hv, hw, h0, h1⟩
    have hlen : (two k).levels.length = k := by
      show (List.take k _).length = k
      rw [List.length_take]; show min k 2 = k; omega
    refine ⟨⟨rfl, rfl⟩, fun b hb => ?_, fun b t hb ht => ?_, fun i hi => ?_, fun i hi hc => ?_⟩
    · have hb : b < 2 := hb
      have : b = 0 ∨ b = 1 := by omega
      rcases this with rfl | rfl
      · exact hp
      · show 0 ≤ q ∧ q ≤ 0; omega
    · have hb : b < 2 := hb
      have ht : t ≤ 2 := ht
      have e1 : b = 0 ∨ b = 1 := by omega
      have e2 : t = 0 ∨ t = 1 ∨ t = 2 := by omega
      rcases e1 with rfl | rfl <;> rcases e2 with rfl | rfl | rfl
      · rw [two_00]; show 0 ≤ p ∧ p ≤ 100; omega
      · rw [two_01]; show 0 ≤ p + u ∧ p + u ≤ 100; omega
      · rw [two_02]; show 0 ≤ p + u - v ∧ p + u - v ≤ 100; omega
      · rw [two_10]; show 0 ≤ q ∧ q ≤ 50; omega
      · rw [two_11]; show 0 ≤ q ∧ q ≤ 50; omega
      · rw [two_12]; show 0 ≤ q + v - w ∧ q + v - w ≤ 50; omega
    · have hi : i < 3 := hi
      have : i = 0 ∨ i = 1 ∨ i = 2 := by omega
      rcases this with rfl | rfl | rfl
      · exact hu
      · exact hv
      · exact hw
    · rw [hlen] at hi
      have : i = 0 ∨ i = 1 := by omega
      rcases this with rfl | rfl
      · have h := h0 hi hc
        have e : nth (two k).levels 0 = ⟨2, 1, ⟨20, 25⟩⟩ := by
          obtain ⟨j, rfl⟩ : ∃ j, k = j + 1 := ⟨k - 1, by omega⟩
          rfl
        rw [e]
        change 20 ≤ contY _ _ 1 2 ∧ contY _ _ 1 2 ≤ 25
        rw [two_12]; omega
      · obtain rfl : k = 2 := by omega
        have h := h1 (by omega) hc
        change 10 ≤ contY _ _ 0 2 ∧ contY _ _ 0 2 ≤ 24
        rw [two_02]; exact h
theorem two_isS (hk : k ≤ 2) {f : Amts → Int} {s : Span} (p0 q0 u0 v0 w0 p1 q1 u1 v1 w1 : Int) (h0 : TwoA k c p0 q0 u0 v0 w0) (e0 : f (amT p0 q0 u0 v0 w0) = s.lo) (h1 : TwoA k c p1 q1 u1 v1 w1) (e1 : f (amT p1 q1 u1 v1 w1) = s.hi)
    (h : ∀ p q u v w, TwoA k c p q u v w → s.lo ≤ f (amT p q u v w) ∧ f (amT p q u v w) ≤ s.hi) : IsS (two k) c f s :=
  ⟨⟨_, (two_fits hk).2 h0, e0⟩, ⟨_, (two_fits hk).2 h1, e1⟩, fun a ha => by
    obtain ⟨p, q, u, v, w, rfl⟩ := two_am ha.lens
    exact h p q u v w ((two_fits hk).1 ha)⟩
end
end Go.Proofs.YtelbollidfdcjaaGreat

namespace Go.Proofs.YtelbollidfdcjaaGreat
open Go Go.T
section
variable {y : Yard} {c : Nat → Bool} {a : Amts} {b t k : Nat} {s : Span}
theorem open_yes (h0 : checkY y = 0) (h : ∃ a, FitsC y (nth allC) a) : openE y = 0 := (open_3 h0 ((stuck_fits (chk_right h0)).2 h)).symm
theorem open_not (h0 : checkY y = 0) (h : ¬ ∃ a, FitsC y (nth allC) a) : openE y = 7 := by
  cases e : (stuckM (flowsY y (nth allC)) (y.cells + 1) (loL (flowsY y (nth allC)))).2.1 with
  | true => exact (open_2 h0 e).symm
  | false => exact absurd ((stuck_fits (chk_right h0)).1 e) h
theorem open_fits (h : openE y = 0) : ∃ a, FitsC y (nth allC) a := (stuck_fits (chk_right (open_chk h))).1 (open_ok h)
theorem agree_iff (hr : y.Right) {l : List Bool} : agreeM y l = true ↔ ∃ a, FitsC y (nth l) a := by
  unfold agreeM
  rw [Bool.not_eq_true', stuck_fits hr]
theorem bnd_isS (ho : openE y = 0) (hb : b < y.bins.length) (ht : t ≤ y.D) : IsS y (nth allC) (fun a => contY y a b t) (spanU (flowsY y (nth allC)) (y.cells + 1) (hasB y b t)) :=
  span_isS (chk_right (open_chk ho)) (fun x hx => has_bin (chk_right (open_chk ho)) hb ht hx) (open_fits ho)
theorem whl_isS (ho : openE y = 0) (ht : t ≤ y.D) : IsS y (nth allC) (fun a => sumN (fun b => contY y a b t) y.bins.length) (spanU (flowsY y (nth allC)) (y.cells + 1) (hasW y t)) :=
  span_isS (chk_right (open_chk ho)) (fun x hx => has_whole (chk_right (open_chk ho)) ht hx) (open_fits ho)
theorem mov_isS (ho : openE y = 0) (hk : k < y.moves.length) : IsS y (nth allC) (fun a => nth a.moved k) (spanU (flowsY y (nth allC)) (y.cells + 1) (hasK (y.bins.length * (y.D + 1) + k))) :=
  span_isS (chk_right (open_chk ho)) (fun x hx => has_move hk) (open_fits ho)
theorem known_b (h0 : checkY y = 0) (hb : b < y.bins.length) : knownE y (b : Int) = 0 := by
  unfold knownE
  rw [if_pos h0, if_pos (by unfold Yard.bin; rw [inB_true]; omega)]
theorem bndE_ok (ho : openE y = 0) (hb : b < y.bins.length) : bndE y (b : Int) = 0 := (bndE_3 (known_b (open_chk ho) hb) ho).1.symm
theorem bndY_ok (ho : openE y = 0) (hb : b < y.bins.length) : bndY y (b : Int) = (List.range (y.D + 1)).map fun t => spanU (flowsY y (nth allC)) (y.cells + 1) (hasB y b t) := (bndE_3 (known_b (open_chk ho) hb) ho).2.symm
theorem whlY_ok (ho : openE y = 0) : whlY y = (List.range (y.D + 1)).map fun t => spanU (flowsY y (nth allC)) (y.cells + 1) (hasW y t) := (whlY_yes ho).symm
theorem movE_ok (ho : openE y = 0) (hk : k < y.moves.length) : movE y (k : Int) = 0 := (mvE_4 (open_chk ho) (by rw [Bool.not_eq_false', Bool.and_eq_true, decide_eq_true_eq, decide_eq_true_eq]; omega) ho).1.symm
theorem movS_isS (ho : openE y = 0) (hk : k < y.moves.length) : IsS y (nth allC) (fun a => nth a.moved k) (movS y (k : Int)) := by
  rw [← (mvE_4 (open_chk ho) (by rw [Bool.not_eq_false', Bool.and_eq_true, decide_eq_true_eq, decide_eq_true_eq]; omega) ho).2]
  exact mov_isS ho hk
end
theorem list3 {α : Type} {a b c x y z : α} (h1 : a = x) (h2 : b = y) (h3 : c = z) : [a, b, c] = [x, y, z] := by subst h1; subst h2; subst h3; rfl
theorem two_open {k : Nat} (hk : k ≤ 1) : openE (two k) = 0 :=
  open_yes (two_chk (by omega)) ⟨amT 20 0 40 25 5, (two_fits (by omega)).2 ⟨by omega, rfl, by omega, by omega, by omega, fun _ _ => by omega, fun _ _ => by omega⟩⟩
theorem aw_b0 : bndE (two 0) 0 = 0 := bndE_ok (b := 0) (two_open (by omega)) (by decide)
theorem aw_bnd0 : bndY (two 0) 0 = [⟨20, 30⟩, ⟨60, 90⟩, ⟨20, 80⟩] := by
  have ho := two_open (k := 0) (by omega)
  have e := bndY_ok (b := 0) ho (by decide)
  have h0 := (bnd_isS (b := 0) (t := 0) ho (by decide) (by decide)).one (two_isS (s := ⟨20, 30⟩) (by omega) 20 0 40 10 5 30 0 40 10 5 (by constructor <;> intros <;> omega) two_00 (by constructor <;> intros <;> omega) two_00 fun p q u v w h => by rw [two_00]; exact h.hp)
  have h1 := (bnd_isS (b := 0) (t := 1) ho (by decide) (by decide)).one (two_isS (s := ⟨60, 90⟩) (by omega) 20 0 40 10 5 30 0 60 10 5 (by constructor <;> intros <;> omega) two_01 (by constructor <;> intros <;> omega) two_01 fun p q u v w h => by rw [two_01]; have := h.hp; have := h.hu; show 60 ≤ p + u ∧ p + u ≤ 90; omega)
  have h2 := (bnd_isS (b := 0) (t := 2) ho (by decide) (by decide)).one (two_isS (s := ⟨20, 80⟩) (by omega) 20 0 40 40 5 30 0 60 10 5 (by constructor <;> intros <;> omega) two_02 (by constructor <;> intros <;> omega) two_02 fun p q u v w h => by rw [two_02]; have := h.hp; have := h.hu; have := h.hv; show 20 ≤ p + u - v ∧ p + u - v ≤ 80; omega)
  show bndY (two 0) ((0 : Nat) : Int) = _
  rw [e]
  exact list3 h0 h1 h2
theorem aw_bnd1 : bndY (two 1) 0 = [⟨20, 30⟩, ⟨60, 90⟩, ⟨25, 65⟩] := by
  have ho := two_open (k := 1) (by omega)
  have e := bndY_ok (b := 0) ho (by decide)
  have h0 := (bnd_isS (b := 0) (t := 0) ho (by decide) (by decide)).one (two_isS (s := ⟨20, 30⟩) (by omega) 20 0 40 25 5 30 0 40 25 5 (by constructor <;> intros <;> omega) two_00 (by constructor <;> intros <;> omega) two_00 fun p q u v w h => by rw [two_00]; exact h.hp)
  have h1 := (bnd_isS (b := 0) (t := 1) ho (by decide) (by decide)).one (two_isS (s := ⟨60, 90⟩) (by omega) 20 0 40 25 5 30 0 60 25 5 (by constructor <;> intros <;> omega) two_01 (by constructor <;> intros <;> omega) two_01 fun p q u v w h => by rw [two_01]; have := h.hp; have := h.hu; show 60 ≤ p + u ∧ p + u ≤ 90; omega)
  have h2 := (bnd_isS (b := 0) (t := 2) ho (by decide) (by decide)).one (two_isS (s := ⟨25, 65⟩) (by omega) 20 0 40 35 10 30 0 60 25 5 (by constructor <;> intros <;> omega) two_02 (by constructor <;> intros <;> omega) two_02 fun p q u v w h => by rw [two_02]; have := h.hp; have := h.hu; have := h.hw; have := h.l0 (by omega) rfl; show 25 ≤ p + u - v ∧ p + u - v ≤ 65; omega)
  show bndY (two 1) ((0 : Nat) : Int) = _
  rw [e]
  exact list3 h0 h1 h2
theorem two_sum {k : Nat} {a : Amts} {t : Nat} : sumN (fun b => contY (two k) a b t) (two k).bins.length = contY (two k) a 0 t + contY (two k) a 1 t := by
  show (0 + contY (two k) a 0 t) + contY (two k) a 1 t = _; rw [Int.zero_add]
theorem aw_whl : whlY (two 0) = [⟨20, 30⟩, ⟨60, 90⟩, ⟨50, 85⟩] := by
  have ho := two_open (k := 0) (by omega)
  have e := whlY_ok ho
  have h0 := (whl_isS (t := 0) ho (by decide)).one (two_isS (s := ⟨20, 30⟩) (by omega) 20 0 40 10 5 30 0 40 10 5 (by constructor <;> intros <;> omega) (by rw [two_sum, two_00, two_10]; rfl) (by constructor <;> intros <;> omega) (by rw [two_sum, two_00, two_10]; rfl) fun p q u v w h => by rw [two_sum, two_00, two_10]; have := h.hp; have := h.hq; show 20 ≤ p + q ∧ p + q ≤ 30; omega)
  have h1 := (whl_isS (t := 1) ho (by decide)).one (two_isS (s := ⟨60, 90⟩) (by omega) 20 0 40 10 5 30 0 60 10 5 (by constructor <;> intros <;> omega) (by rw [two_sum, two_01, two_11]; rfl) (by constructor <;> intros <;> omega) (by rw [two_sum, two_01, two_11]; rfl) fun p q u v w h => by rw [two_sum, two_01, two_11]; have := h.hp; have := h.hq; have := h.hu; show 60 ≤ p + u + q ∧ p + u + q ≤ 90; omega)
  have h2 := (whl_isS (t := 2) ho (by decide)).one (two_isS (s := ⟨50, 85⟩) (by omega) 20 0 40 10 10 30 0 60 10 5 (by constructor <;> intros <;> omega) (by rw [two_sum, two_02, two_12]; rfl) (by constructor <;> intros <;> omega) (by rw [two_sum, two_02, two_12]; rfl) fun p q u v w h => by rw [two_sum, two_02, two_12]; have := h.hp; have := h.hq; have := h.hu; have := h.hw; show 50 ≤ p + u - v + (q + v - w) ∧ p + u - v + (q + v - w) ≤ 85; omega)
  rw [e]
  exact list3 h0 h1 h2
theorem aw_m1 : movE (two 1) 1 = 0 := movE_ok (k := 1) (two_open (by omega)) (by decide)
theorem aw_mov : movS (two 1) 1 = ⟨25, 35⟩ :=
  (movS_isS (k := 1) (two_open (k := 1) (by omega)) (by decide)).one (two_isS (s := ⟨25, 35⟩) (by omega) 20 0 40 25 5 20 0 40 35 10 (by constructor <;> intros <;> omega) rfl (by constructor <;> intros <;> omega) rfl fun p q u v w h => by have := h.hw; have := h.l0 (by omega) rfl; show 25 ≤ v ∧ v ≤ 35; omega)
theorem aw_s1 : 0 = fstE (two 1) 0 60 (fun x => decide (x.lo ≥ 60)) ∧ fidx (fun x : Span => decide (x.lo ≥ 60)) (bndY (two 1) 0) = fstV (two 1) 0 60 (fun x => decide (x.lo ≥ 60)) :=
  fst_5 (known_b (b := 0) (two_chk (by omega)) (by decide)) rfl (bndE_ok (b := 0) (two_open (by omega)) (by decide)) (by rw [aw_bnd1]; decide)
theorem aw_sur : fstV (two 1) 0 60 (fun x => decide (x.lo ≥ 60)) = 1 := by rw [← aw_s1.2, aw_bnd1]; rfl
def exPrf : Prf := ⟨[⟨0, 0⟩, ⟨0, 1⟩, ⟨1, 1⟩], false⟩
theorem aw_hold : holdsM (two 2) (flowsY (two 2) (nth allC)) exPrf = 1 := by kernel_rfl
theorem aw_p : 0 = prfE (two 2) exPrf ∧ holdsM (two 2) (flowsY (two 2) (nth allC)) exPrf = prfV (two 2) exPrf :=
  prf_5 (two_chk (by omega)) (by decide) (fun i hi => by
    have hi : i + 1 < 3 := hi
    have : i = 0 ∨ i = 1 := by omega
    rcases this with rfl | rfl <;> decide) (by rw [aw_hold]; decide)
theorem aw_prf : prfV (two 2) exPrf = 1 := by rw [← aw_p.2, aw_hold]
theorem two_none : ¬ ∃ a, FitsC (two 2) (nth allC) a := by
  rintro ⟨a, ha⟩
  obtain ⟨p, q, u, v, w, rfl⟩ := two_am ha.lens
  have h := (two_fits (by omega)).1 ha
  have h0 := h.l0 (by omega) rfl
  have h1 := h.l1 (by omega) rfl
  have := h.hp; have := h.hu; have := h.hw
  omega
theorem aw_some : openE (two 2) = 7 := open_not (two_chk (by omega)) two_none
theorem two_yes {l : List Bool} (h : nth l 0 = false ∨ nth l 1 = false) : agreeM (two 2) l = true := by
  rw [agree_iff (two_right (by omega))]
  cases h1 : nth l 1 with
  | false => exact ⟨amT 20 0 40 25 5, (two_fits (by omega)).2 ⟨by omega, rfl, by omega, by omega, by omega, fun _ _ => by omega, fun _ hc => by rw [h1] at hc; cases hc⟩⟩
  | true =>
    have h0 : nth l 0 = false := h.resolve_right (by rw [h1]; decide)
    exact ⟨amT 20 0 40 40 5, (two_fits (by omega)).2 ⟨by omega, rfl, by omega, by omega, by omega, fun _ hc => absurd hc (by rw [h0]; decide), fun _ _ => by omega⟩⟩
theorem two_no {l : List Bool} (h : nth l 0 = true ∧ nth l 1 = true) : agreeM (two 2) l = false := by
  rw [Bool.eq_false_iff]
  intro hc
  obtain ⟨a, ha⟩ := (agree_iff (two_right (by omega))).1 hc
  obtain ⟨p, q, u, v, w, rfl⟩ := two_am ha.lens
  have hh := (two_fits (by omega)).1 ha
  have h0 := hh.l0 (by omega) h.1
  have h1 := hh.l1 (by omega) h.2
  have := hh.hp; have := hh.hu; have := hh.hw
  omega
theorem two_short (h : List Int → Bool) : shortM h 2 = [[], [0], [1], [0, 1]].find? h := rfl
theorem aw_c : shortM (fun l => !agreeM (two 2) (chooseL l false)) 2 = some [0, 1] := by
  rw [two_short, List.find?_cons, two_yes (.inl rfl)]
  show List.find? _ [[0], [1], [0, 1]] = _
  rw [List.find?_cons, two_yes (.inr rfl)]
  show List.find? _ [[1], [0, 1]] = _
  rw [List.find?_cons, two_yes (.inl rfl)]
  show List.find? _ [[0, 1]] = _
  rw [List.find?_cons, two_no ⟨rfl, rfl⟩]; rfl
theorem aw_w : shortM (fun l => agreeM (two 2) (chooseL l true)) 2 = some [0] := by
  rw [two_short, List.find?_cons, two_no ⟨rfl, rfl⟩]
  show List.find? _ [[0], [1], [0, 1]] = _
  rw [List.find?_cons, two_yes (.inl rfl)]
theorem aw_cl : 0 = clashE (two 2) ∧ shV (fun l => !agreeM (two 2) (chooseL l false)) 2 = clashV (two 2) :=
  clash_3 (two_chk (by omega)) (by show (!(shortM _ 2).isSome) = false; rw [aw_c]; rfl)
theorem aw_wr : 0 = wrongE (two 2) ∧ shV (fun l => agreeM (two 2) (chooseL l true)) 2 = wrongV (two 2) :=
  wrong_3 (two_chk (by omega)) (by show (!(shortM _ 2).isSome) = false; rw [aw_w]; rfl)
theorem aw_clash : clashV (two 2) = [0, 1] := by rw [← aw_cl.2]; unfold shV; rw [aw_c]; rfl
theorem aw_wrong : wrongV (two 2) = [0] := by rw [← aw_wr.2]; unfold shV; rw [aw_w]; rfl
end Go.Proofs.YtelbollidfdcjaaGreat

namespace Go.Proofs.YtelbollidfdcjaaGreat
open Go Go.T
set_option maxHeartbeats 4000000
def sameY (a b : Yard) : Bool := ((decide (a.days = b.days) && decide (a.bins = b.bins)) && decide (a.moves = b.moves)) && decide (a.levels = b.levels)
theorem sameY_self (y : Yard) : sameY y y = true := by unfold sameY; simp
def greatY (y : Yard) : Bool := (decide ((y.bins.length : Int) > 8) || decide ((y.moves.length : Int) > 14)) || decide ((y.levels.length : Int) > 12)
theorem small_great {y : Yard} (h : greatY y = false) : y.Small := by
  unfold greatY at h
  simp only [Bool.or_eq_false_iff, decide_eq_false_iff_not] at h
  exact ⟨by omega, by omega, by omega⟩
theorem pubTy_row_eq {A : As} {α : Type} {E : El α} {T tg : Nat} {xs ys : List α} (h : xs = ys) : PubTy A tg (Ty.row E T tg xs) (Ty.sl E ys) := by subst h; exact pubTy_row
theorem two_small {k : Nat} (hk : k ≤ 2) : (two k).Small := ⟨by show 2 ≤ 1000; omega, by show 3 ≤ 1000; omega, by show (List.take k _).length ≤ 1000; rw [List.length_take]; show min k 2 ≤ 1000; omega⟩
attribute [local irreducible] bndY bndE whlY openE movS movE fstV fstE prfV prfE clashV clashE wrongV wrongE someY checkY
attribute [local irreducible] dInt dBool dSl dPp dPtr dAgg dTup dClo dAny dEx dStr dGd dCells dVec dVs dRow dOp nth Tri Into TOps Ctr bodyPost Exit.then Exit.inBlock Code.wp Code.wpIn dWhen dPa dPe dAo dArr dMp dPm dMap dCJ CtrG CtrI OpY keepPost iterPost bodyPostM roundQ
set_option maxRecDepth 100000 in
theorem c_span (a b : Int) : Ctr Tryz.prog 56 [Ty.int .i64 a, Ty.int .i64 b] (Ty.agg (SpanE.tys ⟨a, b⟩)) := by
  refine fn_intro Tryz.func56 rfl (by decide) Tryz.ntmps56 (by exact Nat.le_of_ble_eq_true rfl) fun w0 M0 => ?_
  refine t_seq ?_
  refine t_region ?_
  refine r_alloc rfl (by exact List.cons_ne_nil _ _) rfl ?_
  refine r_nil ?_
  refine i_then ?_
  refine t_seq ?_
  refine t_region ?_
  refine mvI rfl ?_
  refine mvI rfl ?_
  refine r_build rfl rfl (by exact List.cons_ne_nil _ _) rfl (by repeat (first | exact (Parts.nil : Parts _ _ [] _) | (show Parts _ _ ((_, _) :: _) _; apply Parts.one; (· exact (rfl : _ = Ty.int _ _)); (· exact rfl)))) (by exact (rfl : _ = some [_, _])) ?_
  refine r_storeN rfl rfl (by decide) rfl rfl rfl rfl rfl rfl ?_
  refine r_nil ?_
  refine i_then ?_
  refine t_ret ?_
  refine i_rcell rfl rfl rfl rfl (by decide) rfl rfl rfl ?_
  all_goals exact ret_eq rfl rfl rfl
set_option maxRecDepth 100000 in
theorem c_Two (k : Nat) (hk : k ≤ 2) : Ctr Tryz.prog 93 [Ty.int .i64 ((k : Nat) : Int)] (yardT (two k)) := by
  refine fn_intro Tryz.func93 rfl (by decide) Tryz.ntmps93 (by exact Nat.le_of_ble_eq_true rfl) fun w0 M0 => ?_
  refine t_seq ?_
  refine t_region ?_
  refine r_alloc rfl (by exact List.cons_ne_nil _ _) rfl ?_
  refine r_nil ?_
  refine i_then ?_
  refine t_seq ?_
  refine t_region ?_
  refine r_call (c_span _ _) rfl rfl rfl rfl rfl ?_
  refine r_build rfl rfl (by exact List.cons_ne_nil _ _) rfl (by repeat (first | exact (Parts.nil : Parts _ _ [] _) | (show Parts _ _ ((_, _) :: _) _; apply Parts.one; (· exact (rfl : _ = Ty.int _ _)); (· exact rfl)) | (show Parts _ _ ((_, _) :: _) _; apply Parts.agg; (· exact (rfl : _ = Ty.agg _))))) (by exact (rfl : _ = some [_, _, _, _])) ?_
  refine r_call (c_span _ _) rfl rfl rfl rfl rfl ?_
  refine r_build rfl rfl (by exact List.cons_ne_nil _ _) rfl (by repeat (first | exact (Parts.nil : Parts _ _ [] _) | (show Parts _ _ ((_, _) :: _) _; apply Parts.one; (· exact (rfl : _ = Ty.int _ _)); (· exact rfl)) | (show Parts _ _ ((_, _) :: _) _; apply Parts.agg; (· exact (rfl : _ = Ty.agg _))))) (by exact (rfl : _ = some [_, _, _, _])) ?_
  refine r_buildSlice (E := LevelE) (xs := [⟨2, 1, ⟨20, 25⟩⟩, ⟨2, 0, ⟨10, 24⟩⟩]) rfl rfl rfl rfl rfl (by decide) (by decide) (by repeat (first | exact (Parts.nil : Parts _ _ [] _) | (show Parts _ _ ((_, _) :: _) _; apply Parts.agg; (· exact (rfl : _ = Ty.agg _))))) (by exact rfl) rfl ?_
  refine asS rfl ?_
  refine r_nil ?_
  refine i_then ?_
  refine t_seq ?_
  refine t_draw mixed rfl ?_
  refine r_call (c_span _ _) rfl rfl rfl rfl rfl ?_
  refine r_build rfl rfl (by exact List.cons_ne_nil _ _) rfl (by repeat (first | exact (Parts.nil : Parts _ _ [] _) | (show Parts _ _ ((_, _) :: _) _; apply Parts.one; (· exact (rfl : _ = Ty.int _ _)); (· exact rfl)) | (show Parts _ _ ((_, _) :: _) _; apply Parts.agg; (· exact (rfl : _ = Ty.agg _))))) (by exact (rfl : _ = some [_, _, _])) ?_
  refine r_build rfl rfl (by exact List.cons_ne_nil _ _) rfl (by repeat (first | exact (Parts.nil : Parts _ _ [] _) | (show Parts _ _ ((_, _) :: _) _; apply Parts.one; (· exact (rfl : _ = Ty.int _ _)); (· exact rfl)))) (by exact (rfl : _ = some [_, _, _])) ?_
  refine r_buildSlice (E := BinE) (xs := [⟨100, ⟨20, 30⟩⟩, ⟨50, ⟨0, 0⟩⟩]) rfl rfl rfl rfl rfl (by decide) (by decide) (by repeat (first | exact (Parts.nil : Parts _ _ [] _) | (show Parts _ _ ((_, _) :: _) _; apply Parts.agg; (· exact (rfl : _ = Ty.agg _))))) (by exact rfl) rfl ?_
  refine r_call (c_span _ _) rfl rfl rfl rfl rfl ?_
  refine r_build rfl rfl (by exact List.cons_ne_nil _ _) rfl (by repeat (first | exact (Parts.nil : Parts _ _ [] _) | (show Parts _ _ ((_, _) :: _) _; apply Parts.one; (· exact (rfl : _ = Ty.int _ _)); (· exact rfl)) | (show Parts _ _ ((_, _) :: _) _; apply Parts.agg; (· exact (rfl : _ = Ty.agg _))))) (by exact rfl) ?_
  refine r_call (c_span _ _) rfl rfl rfl rfl rfl ?_
  refine r_build rfl rfl (by exact List.cons_ne_nil _ _) rfl (by repeat (first | exact (Parts.nil : Parts _ _ [] _) | (show Parts _ _ ((_, _) :: _) _; apply Parts.one; (· exact (rfl : _ = Ty.int _ _)); (· exact rfl)) | (show Parts _ _ ((_, _) :: _) _; apply Parts.agg; (· exact (rfl : _ = Ty.agg _))))) (by exact rfl) ?_
  refine r_call (c_span _ _) rfl rfl rfl rfl rfl ?_
  refine r_build rfl rfl (by exact List.cons_ne_nil _ _) rfl (by repeat (first | exact (Parts.nil : Parts _ _ [] _) | (show Parts _ _ ((_, _) :: _) _; apply Parts.one; (· exact (rfl : _ = Ty.int _ _)); (· exact rfl)) | (show Parts _ _ ((_, _) :: _) _; apply Parts.agg; (· exact (rfl : _ = Ty.agg _))))) (by exact rfl) ?_
  refine r_buildSlice (E := MoveE) (xs := [⟨0, -1, 0, ⟨40, 60⟩⟩, ⟨1, 0, 1, ⟨10, 40⟩⟩, ⟨1, 1, -1, ⟨5, 10⟩⟩]) rfl rfl rfl rfl rfl (by decide) (by decide) (by repeat (first | exact (Parts.nil : Parts _ _ [] _) | (show Parts _ _ ((_, _) :: _) _; apply Parts.agg; (· exact (rfl : _ = Ty.agg _))))) (by exact rfl) rfl ?_
  refine mvS rfl ?_
  refine mvI rfl ?_
  refine mvS rfl ?_
  refine r_len rfl rfl rfl ?_
  refine r_min rfl rfl ?_
  refine r_max rfl rfl ?_
  refine r_cut_hi (hi := k) rfl (show _ = Ty.int .i64 ((k : Nat) : Int) from congrArg (Ty.int .i64) (by show max 0 (min (k : Int) 2) = (k : Int); omega)) rfl rfl rfl rfl (by show k ≤ 2; exact hk) ?_
  refine r_build rfl rfl (by exact List.cons_ne_nil _ _) rfl (by repeat (first | exact (Parts.nil : Parts _ _ [] _) | (show Parts _ _ ((_, _) :: _) _; apply Parts.one; (· first | exact (rfl : _ = Ty.int _ _) | exact (rfl : _ = Ty.sl _ _)); (· exact rfl)))) (by exact (rfl : _ = some [_, _, _, _])) ?_
  refine r_storeN rfl rfl (by decide) rfl rfl rfl rfl rfl rfl ?_
  refine r_nil ?_
  refine ⟨by kernel_rfl, ?_⟩
  refine i_then ?_
  refine t_ret ?_
  refine i_rcell rfl rfl rfl rfl (by decide) rfl rfl rfl ?_
  all_goals exact ret_eq rfl rfl rfl
set_option maxRecDepth 100000 in
theorem c_Own (y : Yard) (hs : y.Small) : Ctr Tryz.prog 29 [yardT y] (yardT y) := by
  refine fn_intro Tryz.func29 rfl (by decide) Tryz.ntmps29 (by exact Nat.le_of_ble_eq_true rfl) fun w0 M0 => ?_
  have hs1 := hs.bins
  have hs2 := hs.moves
  have hs3 := hs.levels
  refine t_seq ?_
  refine t_region ?_
  refine r_box_agg rfl ?_
  refine r_alloc rfl (by exact List.cons_ne_nil _ _) rfl ?_
  refine r_nil ?_
  refine i_then ?_
  refine t_seq ?_
  refine t_draw mixed rfl ?_
  refine r_field_pp rfl rfl rfl rfl rfl (by decide) ?_
  refine r_load_pp rfl rfl rfl rfl ?_
  refine r_field_pp rfl rfl rfl rfl rfl (by decide) ?_
  refine r_load_pp rfl rfl rfl rfl ?_
  refine r_call (c_Dup_bin y.bins hs1) rfl rfl rfl rfl rfl ?_
  refine r_field_pp rfl rfl rfl rfl rfl (by decide) ?_
  refine r_load_pp rfl rfl rfl rfl ?_
  refine r_call (c_Dup_mov y.moves hs2) rfl rfl rfl rfl rfl ?_
  refine r_field_pp rfl rfl rfl rfl rfl (by decide) ?_
  refine r_load_pp rfl rfl rfl rfl ?_
  refine r_call (c_Dup_lev y.levels hs3) rfl rfl rfl rfl rfl ?_
  refine r_build rfl rfl (by exact List.cons_ne_nil _ _) rfl (by repeat (first | exact (Parts.nil : Parts _ _ [] _) | (show Parts _ _ ((_, _) :: _) _; apply Parts.one; (· first | exact (rfl : _ = Ty.int _ _) | exact (rfl : _ = Ty.sl _ _)); (· exact rfl)))) (by exact (rfl : _ = some [_, _, _, _])) ?_
  refine r_storeN rfl rfl (by decide) rfl rfl rfl rfl rfl rfl ?_
  refine r_nil ?_
  refine ⟨by kernel_rfl, ?_⟩
  refine i_then ?_
  refine t_ret ?_
  refine i_rcell rfl rfl rfl rfl (by decide) rfl rfl rfl ?_
  all_goals exact ret_eq rfl rfl rfl
set_option maxRecDepth 100000 in
theorem c_same (a b : Yard) : Ctr Tryz.prog 35 [yardT a, yardT b] (Ty.bool (sameY a b)) := by
  refine fn_intro Tryz.func35 rfl (by decide) Tryz.ntmps35 (by exact Nat.le_of_ble_eq_true rfl) fun w0 M0 => ?_
  refine t_seq ?_
  refine t_region ?_
  refine r_box_agg rfl ?_
  refine r_box_agg rfl ?_
  refine asB rfl ?_
  refine r_nil ?_
  refine i_then ?_
  refine t_seq ?_
  refine t_region ?_
  refine r_field_pp rfl rfl rfl rfl rfl (by decide) ?_
  refine r_load_pp rfl rfl rfl rfl ?_
  refine r_field_pp rfl rfl rfl rfl rfl (by decide) ?_
  refine r_load_pp rfl rfl rfl rfl ?_
  refine r_bin rfl rfl rfl ?_
  refine mvB rfl ?_
  apply r_guard (s := 10) rfl rfl rfl
  · intro hg; apply opT_of; (refine r_field_pp rfl rfl rfl rfl rfl (by decide) ?_); refine r_nil ?_; exact rfl
  · exact rfl
  · exact rfl
  apply r_guard (s := 10) rfl rfl rfl
  · intro hg; apply opT_strip (s := 11) rfl (by (rw [hg]; rfl)); apply opT_of; (refine r_load_pp rfl rfl rfl rfl ?_); refine r_nil ?_; exact rfl
  · exact rfl
  · exact rfl
  apply r_guard (s := 10) rfl rfl rfl
  · intro hg; apply opT_of; (refine r_field_pp rfl rfl rfl rfl rfl (by decide) ?_); refine r_nil ?_; exact rfl
  · exact rfl
  · exact rfl
  apply r_guard (s := 10) rfl rfl rfl
  · intro hg; apply opT_strip (s := 13) rfl (by (rw [hg]; rfl)); apply opT_of; (refine r_load_pp rfl rfl rfl rfl ?_); refine r_nil ?_; exact rfl
  · exact rfl
  · exact rfl
  apply r_guard (s := 10) rfl rfl rfl
  · intro hg; apply opT_strip (s := 12) rfl (by (rw [hg]; rfl)); apply opT_strip (s := 14) rfl (by (rw [hg]; rfl)); apply opT_of; (refine r_call (c_Eq_bin _ _) rfl rfl rfl rfl rfl ?_); refine r_nil ?_; exact rfl
  · exact rfl
  · exact rfl
  refine r_and rfl rfl ?_
  refine mvB rfl ?_
  apply r_guard (s := 17) rfl rfl rfl
  · intro hg; apply opT_of; (refine r_field_pp rfl rfl rfl rfl rfl (by decide) ?_); refine r_nil ?_; exact rfl
  · exact rfl
  · exact rfl
  apply r_guard (s := 17) rfl rfl rfl
  · intro hg; apply opT_strip (s := 18) rfl (by (rw [hg]; rfl)); apply opT_of; (refine r_load_pp rfl rfl rfl rfl ?_); refine r_nil ?_; exact rfl
  · exact rfl
  · exact rfl
  apply r_guard (s := 17) rfl rfl rfl
  · intro hg; apply opT_of; (refine r_field_pp rfl rfl rfl rfl rfl (by decide) ?_); refine r_nil ?_; exact rfl
  · exact rfl
  · exact rfl
  apply r_guard (s := 17) rfl rfl rfl
  · intro hg; apply opT_strip (s := 20) rfl (by (rw [hg]; rfl)); apply opT_of; (refine r_load_pp rfl rfl rfl rfl ?_); refine r_nil ?_; exact rfl
  · exact rfl
  · exact rfl
  apply r_guard (s := 17) rfl rfl rfl
  · intro hg; apply opT_strip (s := 19) rfl (by (rw [hg]; rfl)); apply opT_strip (s := 21) rfl (by (rw [hg]; rfl)); apply opT_of; (refine r_call (c_Eq_mov _ _) rfl rfl rfl rfl rfl ?_); refine r_nil ?_; exact rfl
  · exact rfl
  · exact rfl
  refine r_and rfl rfl ?_
  refine mvB rfl ?_
  apply r_guard (s := 24) rfl rfl rfl
  · intro hg; apply opT_of; (refine r_field_pp rfl rfl rfl rfl rfl (by decide) ?_); refine r_nil ?_; exact rfl
  · exact rfl
  · exact rfl
  apply r_guard (s := 24) rfl rfl rfl
  · intro hg; apply opT_strip (s := 25) rfl (by (rw [hg]; rfl)); apply opT_of; (refine r_load_pp rfl rfl rfl rfl ?_); refine r_nil ?_; exact rfl
  · exact rfl
  · exact rfl
  apply r_guard (s := 24) rfl rfl rfl
  · intro hg; apply opT_of; (refine r_field_pp rfl rfl rfl rfl rfl (by decide) ?_); refine r_nil ?_; exact rfl
  · exact rfl
  · exact rfl
  apply r_guard (s := 24) rfl rfl rfl
  · intro hg; apply opT_strip (s := 27) rfl (by (rw [hg]; rfl)); apply opT_of; (refine r_load_pp rfl rfl rfl rfl ?_); refine r_nil ?_; exact rfl
  · exact rfl
  · exact rfl
  apply r_guard (s := 24) rfl rfl rfl
  · intro hg; apply opT_strip (s := 26) rfl (by (rw [hg]; rfl)); apply opT_strip (s := 28) rfl (by (rw [hg]; rfl)); apply opT_of; (refine r_call (c_Eq_lev _ _) rfl rfl rfl rfl rfl ?_); refine r_nil ?_; exact rfl
  · exact rfl
  · exact rfl
  refine r_and rfl rfl ?_
  refine asB rfl ?_
  refine r_nil ?_
  refine i_then ?_
  refine t_ret ?_
  refine i_rp1 rfl rfl ?_
  all_goals exact ret_refl rfl rfl
  all_goals trace_state
set_option maxRecDepth 100000 in
theorem c_theirs (y : Yard) (hs : y.Small) : Ctr Tryz.prog 30 [yardT y] (yardT y) := by
  refine fn_intro Tryz.func30 rfl (by decide) Tryz.ntmps30 (by exact Nat.le_of_ble_eq_true rfl) fun w0 M0 => ?_
  have hs1 := hs.bins
  have hs2 := hs.moves
  have hs3 := hs.levels
  refine t_seq ?_
  refine t_region ?_
  refine r_box_agg rfl ?_
  refine r_alloc rfl (by exact List.cons_ne_nil _ _) rfl ?_
  refine r_nil ?_
  refine i_then ?_
  refine t_seq ?_
  refine t_region ?_
  refine r_field_pp rfl rfl rfl rfl rfl (by decide) ?_
  refine r_load_pp rfl rfl rfl rfl ?_
  refine r_build rfl rfl (by exact List.cons_ne_nil _ _) rfl (by repeat (first | exact (Parts.nil : Parts _ _ [] _) | (show Parts _ _ ((_, _) :: _) _; apply Parts.one; (· exact (rfl : _ = Ty.int _ _)); (· exact rfl)))) (by exact (rfl : _ = some [_, _, _, _])) ?_
  refine r_alloc rfl (by exact List.cons_ne_nil _ _) rfl ?_
  refine r_storeN rfl rfl (by decide) rfl rfl rfl rfl rfl rfl ?_
  refine r_nil ?_
  refine i_then ?_
  refine t_seq ?_
  refine t_seq ?_
  refine t_region ?_
  refine r_field_pp rfl rfl rfl rfl rfl (by decide) ?_
  refine r_load_pp rfl rfl rfl rfl ?_
  refine r_len rfl rfl rfl ?_
  refine mvI rfl ?_
  refine r_nil ?_
  refine i_then ?_
  refine t_block ?_
  refine t_loop (fun (k : {k : Nat // k ≤ y.bins.length}) => live [(1, Ty.pp (yardTys y)), (2, Ty.ptr 3 0), (3, Ty.ptr 4 0), (14, Ty.sl BinE y.bins), (15, Ty.int .i64 y.bins.length), (16, Ty.int .i64 (k.1 : Nat))] [(3, Cont.cells 60 [Ty.int .i64 0, Ty.ex (.slice none 0 0), Ty.ex (.slice none 0 0), Ty.ex (.slice none 0 0)]), (4, Cont.cells 60 [Ty.int .i64 y.days, Ty.row BinE 163 24 (y.bins.take k.1), Ty.ex (.slice none 0 0), Ty.ex (.slice none 0 0)])]) (fun k => y.bins.length - k.1) (⟨0, by omega⟩) ?_ fun k => ?_
  · (refine Ent.mk' ?_ ?_ <;> (repeat' (first | exact allSub_zero | exact allTags_nil | exact subs_nil | refine allSub_succ' ?_ (Ty.sub_any _) | refine allSub_succ' ?_ (Ty.sub_refl _) | refine allTags_cons rfl (Cont.sub_refl _) ?_ | refine allTags_cons rfl (Cont.sub_subs ?_) ?_ | refine subs_cons ?_ (Ty.sub_refl _) | refine subs_cons ?_ Ty.nil_row)))
    all_goals trace_state
  ·
    have hk := k.2
    refine t_seq ?_
    refine t_region ?_
    refine r_bin rfl rfl rfl ?_
    refine r_nil ?_
    refine i_then ?_
    refine t_seq ?_
    refine t_cond_dec rfl (fun hc1 => ?_) (fun hc1 => ?_)
    ·
      refine t_skip ?_
      refine i_then ?_
      refine t_seq ?_
      refine t_block ?_
      refine t_seq ?_
      refine t_region ?_
      refine r_index_slN rfl rfl rfl rfl rfl rfl (by omega) ?_
      refine r_load_ppN rfl rfl rfl (by exact Nat.le_of_ble_eq_true rfl) ?_
      refine r_alloc rfl (by exact List.cons_ne_nil _ _) rfl ?_
      refine r_storeN rfl rfl (by decide) rfl rfl rfl rfl rfl rfl ?_
      refine r_nil ?_
      refine i_then ?_
      refine t_region ?_
      refine r_field_ptr rfl rfl rfl rfl rfl (by decide) ?_
      refine r_load_ptr rfl rfl (by decide) rfl rfl rfl ?_
      refine r_load_ptrN rfl rfl (by decide) rfl rfl (by exact Nat.le_of_ble_eq_true rfl) ?_
      refine r_buildSlice (E := BinE) (xs := [nth y.bins k.1]) rfl rfl rfl rfl rfl (by decide) (by decide) (by repeat (first | exact (Parts.nil : Parts _ _ [] _) | (show Parts _ _ ((_, _) :: _) _; apply Parts.agg; (· exact (rfl : _ = Ty.agg _))))) (by exact rfl) rfl ?_
      refine r_append rfl rfl (by decide) rfl rfl rfl rfl rfl rfl (by decide) (by (simp <;> omega)) (by (simp <;> omega)) ?_
      refine r_field_ptr rfl rfl rfl rfl rfl (by decide) ?_
      refine r_store1 rfl rfl (by decide) rfl rfl (by exact (rfl : _ = Ty.row _ _ _ _)) rfl (by exact Nat.le_of_ble_eq_true rfl) rfl rfl (by exact rfl) ?_
      refine r_nil ?_
      refine i_block ?_
      refine i_then ?_
      refine t_region ?_
      refine r_add rfl rfl (by omega) (by omega) ?_
      refine mvI rfl ?_
      refine r_nil ?_
      refine i_round (⟨k.1 + 1, by omega⟩) ?_ (by show y.bins.length - (k.1 + 1) < y.bins.length - k.1; omega)
      (refine Ent.mk' ?_ ?_ <;> (repeat' (first | exact allSub_zero | exact allTags_nil | exact subs_nil | refine allSub_succ' ?_ (Ty.sub_any _) | refine allSub_succ' ?_ (Ty.sub_refl _) | refine allTags_cons rfl (Cont.sub_refl _) ?_ | refine allTags_cons rfl (Cont.sub_subs ?_) ?_ | refine subs_cons ?_ (Ty.sub_refl _) | refine subs_cons ?_ ?_)))
      all_goals exact Ty.sub_row (take_nth (by omega)).symm
      all_goals trace_state
    ·
      refine t_exit ?_
      refine i_then_exit ?_
      refine i_then_exit ?_
      refine i_block_exit rfl ?_
      refine i_then ?_
      refine t_seq ?_
      refine t_seq ?_
      refine t_pubC (tg := 24) [] [(4, Cont.cells 60 [Ty.int .i64 y.days, Ty.sl BinE y.bins, Ty.ex (.slice none 0 0), Ty.ex (.slice none 0 0)])] (by decide) rfl trivial ⟨pubC_cells rfl rfl ⟨pubTy_same rfl, pubTy_row_eq (List.take_of_length_le (by have := k.2; omega)), pubTy_same rfl, pubTy_same rfl, trivial⟩, trivial⟩ ?_
      refine t_region ?_
      refine r_field_pp rfl rfl rfl rfl rfl (by decide) ?_
      refine r_load_pp rfl rfl rfl rfl ?_
      refine r_len rfl rfl rfl ?_
      refine mvI rfl ?_
      refine r_nil ?_
      refine i_then ?_
      refine t_block ?_
      refine t_loop (fun (m : {k : Nat // k ≤ y.moves.length}) => live [(1, Ty.pp (yardTys y)), (2, Ty.ptr 3 0), (3, Ty.ptr 4 0), (28, Ty.sl MoveE y.moves), (29, Ty.int .i64 y.moves.length), (30, Ty.int .i64 (m.1 : Nat))] [(3, Cont.cells 60 [Ty.int .i64 0, Ty.ex (.slice none 0 0), Ty.ex (.slice none 0 0), Ty.ex (.slice none 0 0)]), (4, Cont.cells 60 [Ty.int .i64 y.days, Ty.sl BinE y.bins, Ty.row MoveE 164 38 (y.moves.take m.1), Ty.ex (.slice none 0 0)])]) (fun m => y.moves.length - m.1) (⟨0, by omega⟩) ?_ fun m => ?_
      · (refine Ent.mk' ?_ ?_ <;> (repeat' (first | exact allSub_zero | exact allTags_nil | exact subs_nil | refine allSub_succ' ?_ (Ty.sub_any _) | refine allSub_succ' ?_ (Ty.sub_refl _) | refine allTags_cons rfl (Cont.sub_refl _) ?_ | refine allTags_cons rfl (Cont.sub_subs ?_) ?_ | refine subs_cons ?_ (Ty.sub_refl _) | refine subs_cons ?_ Ty.nil_row)))
        all_goals trace_state
      ·
        have hm := m.2
        refine t_seq ?_
        refine t_region ?_
        refine r_bin rfl rfl rfl ?_
        refine r_nil ?_
        refine i_then ?_
        refine t_seq ?_
        refine t_cond_dec rfl (fun hc2 => ?_) (fun hc2 => ?_)
        ·
          refine t_skip ?_
          refine i_then ?_
          refine t_seq ?_
          refine t_block ?_
          refine t_seq ?_
          refine t_region ?_
          refine r_index_slN rfl rfl rfl rfl rfl rfl (by omega) ?_
          refine r_load_ppN rfl rfl rfl (by exact Nat.le_of_ble_eq_true rfl) ?_
          refine r_alloc rfl (by exact List.cons_ne_nil _ _) rfl ?_
          refine r_storeN rfl rfl (by decide) rfl rfl rfl rfl rfl rfl ?_
          refine r_nil ?_
          refine i_then ?_
          refine t_region ?_
          refine r_field_ptr rfl rfl rfl rfl rfl (by decide) ?_
          refine r_load_ptr rfl rfl (by decide) rfl rfl rfl ?_
          refine r_load_ptrN rfl rfl (by decide) rfl rfl (by exact Nat.le_of_ble_eq_true rfl) ?_
          refine r_buildSlice (E := MoveE) (xs := [nth y.moves m.1]) rfl rfl rfl rfl rfl (by decide) (by decide) (by repeat (first | exact (Parts.nil : Parts _ _ [] _) | (show Parts _ _ ((_, _) :: _) _; apply Parts.agg; (· exact (rfl : _ = Ty.agg _))))) (by exact rfl) rfl ?_
          refine r_append rfl rfl (by decide) rfl rfl rfl rfl rfl rfl (by decide) (by (simp <;> omega)) (by (simp <;> omega)) ?_
          refine r_field_ptr rfl rfl rfl rfl rfl (by decide) ?_
          refine r_store1 rfl rfl (by decide) rfl rfl (by exact (rfl : _ = Ty.row _ _ _ _)) rfl (by exact Nat.le_of_ble_eq_true rfl) rfl rfl (by exact rfl) ?_
          refine r_nil ?_
          refine i_block ?_
          refine i_then ?_
          refine t_region ?_
          refine r_add rfl rfl (by omega) (by omega) ?_
          refine mvI rfl ?_
          refine r_nil ?_
          refine i_round (⟨m.1 + 1, by omega⟩) ?_ (by show y.moves.length - (m.1 + 1) < y.moves.length - m.1; omega)
          (refine Ent.mk' ?_ ?_ <;> (repeat' (first | exact allSub_zero | exact allTags_nil | exact subs_nil | refine allSub_succ' ?_ (Ty.sub_any _) | refine allSub_succ' ?_ (Ty.sub_refl _) | refine allTags_cons rfl (Cont.sub_refl _) ?_ | refine allTags_cons rfl (Cont.sub_subs ?_) ?_ | refine subs_cons ?_ (Ty.sub_refl _) | refine subs_cons ?_ ?_)))
          all_goals exact Ty.sub_row (take_nth (by omega)).symm
          all_goals trace_state
        ·
          refine t_exit ?_
          refine i_then_exit ?_
          refine i_then_exit ?_
          refine i_block_exit rfl ?_
          refine i_then ?_
          refine t_seq ?_
          refine t_seq ?_
          refine t_pubC (tg := 38) [] [(4, Cont.cells 60 [Ty.int .i64 y.days, Ty.sl BinE y.bins, Ty.sl MoveE y.moves, Ty.ex (.slice none 0 0)])] (by decide) rfl trivial ⟨pubC_cells rfl rfl ⟨pubTy_same rfl, pubTy_same rfl, pubTy_row_eq (List.take_of_length_le (by have := m.2; omega)), pubTy_same rfl, trivial⟩, trivial⟩ ?_
          refine t_region ?_
          refine r_field_pp rfl rfl rfl rfl rfl (by decide) ?_
          refine r_load_pp rfl rfl rfl rfl ?_
          refine r_len rfl rfl rfl ?_
          refine mvI rfl ?_
          refine r_nil ?_
          refine i_then ?_
          refine t_block ?_
          refine t_loop (fun (n : {k : Nat // k ≤ y.levels.length}) => live [(1, Ty.pp (yardTys y)), (2, Ty.ptr 3 0), (3, Ty.ptr 4 0), (42, Ty.sl LevelE y.levels), (43, Ty.int .i64 y.levels.length), (44, Ty.int .i64 (n.1 : Nat))] [(3, Cont.cells 60 [Ty.int .i64 0, Ty.ex (.slice none 0 0), Ty.ex (.slice none 0 0), Ty.ex (.slice none 0 0)]), (4, Cont.cells 60 [Ty.int .i64 y.days, Ty.sl BinE y.bins, Ty.sl MoveE y.moves, Ty.row LevelE 165 52 (y.levels.take n.1)])]) (fun n => y.levels.length - n.1) (⟨0, by omega⟩) ?_ fun n => ?_
          · (refine Ent.mk' ?_ ?_ <;> (repeat' (first | exact allSub_zero | exact allTags_nil | exact subs_nil | refine allSub_succ' ?_ (Ty.sub_any _) | refine allSub_succ' ?_ (Ty.sub_refl _) | refine allTags_cons rfl (Cont.sub_refl _) ?_ | refine allTags_cons rfl (Cont.sub_subs ?_) ?_ | refine subs_cons ?_ (Ty.sub_refl _) | refine subs_cons ?_ Ty.nil_row)))
            all_goals trace_state
          ·
            have hn := n.2
            refine t_seq ?_
            refine t_region ?_
            refine r_bin rfl rfl rfl ?_
            refine r_nil ?_
            refine i_then ?_
            refine t_seq ?_
            refine t_cond_dec rfl (fun hc3 => ?_) (fun hc3 => ?_)
            ·
              refine t_skip ?_
              refine i_then ?_
              refine t_seq ?_
              refine t_block ?_
              refine t_seq ?_
              refine t_region ?_
              refine r_index_slN rfl rfl rfl rfl rfl rfl (by omega) ?_
              refine r_load_ppN rfl rfl rfl (by exact Nat.le_of_ble_eq_true rfl) ?_
              refine r_alloc rfl (by exact List.cons_ne_nil _ _) rfl ?_
              refine r_storeN rfl rfl (by decide) rfl rfl rfl rfl rfl rfl ?_
              refine r_nil ?_
              refine i_then ?_
              refine t_region ?_
              refine r_field_ptr rfl rfl rfl rfl rfl (by decide) ?_
              refine r_load_ptr rfl rfl (by decide) rfl rfl rfl ?_
              refine r_load_ptrN rfl rfl (by decide) rfl rfl (by exact Nat.le_of_ble_eq_true rfl) ?_
              refine r_buildSlice (E := LevelE) (xs := [nth y.levels n.1]) rfl rfl rfl rfl rfl (by decide) (by decide) (by repeat (first | exact (Parts.nil : Parts _ _ [] _) | (show Parts _ _ ((_, _) :: _) _; apply Parts.agg; (· exact (rfl : _ = Ty.agg _))))) (by exact rfl) rfl ?_
              refine r_append rfl rfl (by decide) rfl rfl rfl rfl rfl rfl (by decide) (by (simp <;> omega)) (by (simp <;> omega)) ?_
              refine r_field_ptr rfl rfl rfl rfl rfl (by decide) ?_
              refine r_store1 rfl rfl (by decide) rfl rfl (by exact (rfl : _ = Ty.row _ _ _ _)) rfl (by exact Nat.le_of_ble_eq_true rfl) rfl rfl (by exact rfl) ?_
              refine r_nil ?_
              refine i_block ?_
              refine i_then ?_
              refine t_region ?_
              refine r_add rfl rfl (by omega) (by omega) ?_
              refine mvI rfl ?_
              refine r_nil ?_
              refine i_round (⟨n.1 + 1, by omega⟩) ?_ (by show y.levels.length - (n.1 + 1) < y.levels.length - n.1; omega)
              (refine Ent.mk' ?_ ?_ <;> (repeat' (first | exact allSub_zero | exact allTags_nil | exact subs_nil | refine allSub_succ' ?_ (Ty.sub_any _) | refine allSub_succ' ?_ (Ty.sub_refl _) | refine allTags_cons rfl (Cont.sub_refl _) ?_ | refine allTags_cons rfl (Cont.sub_subs ?_) ?_ | refine subs_cons ?_ (Ty.sub_refl _) | refine subs_cons ?_ ?_)))
              all_goals exact Ty.sub_row (take_nth (by omega)).symm
              all_goals trace_state
            ·
              refine t_exit ?_
              refine i_then_exit ?_
              refine i_then_exit ?_
              refine i_block_exit rfl ?_
              refine i_then ?_
              refine t_seq ?_
              refine t_pubC (tg := 52) [] [(4, Cont.cells 60 [Ty.int .i64 y.days, Ty.sl BinE y.bins, Ty.sl MoveE y.moves, Ty.sl LevelE y.levels])] (by decide) rfl trivial ⟨pubC_cells rfl rfl ⟨pubTy_same rfl, pubTy_same rfl, pubTy_same rfl, pubTy_row_eq (List.take_of_length_le (by have := n.2; omega)), trivial⟩, trivial⟩ ?_
              refine t_region ?_
              refine r_load_ptrN rfl rfl (by decide) rfl rfl (by exact Nat.le_of_ble_eq_true rfl) ?_
              refine r_storeN rfl rfl (by decide) rfl rfl rfl rfl rfl rfl ?_
              refine r_nil ?_
              refine i_then ?_
              refine t_ret ?_
              refine i_rcell rfl rfl rfl rfl (by decide) rfl rfl rfl ?_
              all_goals exact ret_eq rfl rfl rfl
set_option maxRecDepth 100000 in
theorem c_great (y : Yard) : Ctr Tryz.prog 69 [yardT y] (Ty.bool (greatY y)) := by
  refine fn_intro Tryz.func69 rfl (by decide) Tryz.ntmps69 (by exact Nat.le_of_ble_eq_true rfl) fun w0 M0 => ?_
  refine t_seq ?_
  refine t_region ?_
  refine r_box_agg rfl ?_
  refine asB rfl ?_
  refine r_nil ?_
  refine i_then ?_
  refine t_seq ?_
  refine t_region ?_
  refine r_field_pp rfl rfl rfl rfl rfl (by decide) ?_
  refine r_load_pp rfl rfl rfl rfl ?_
  refine r_len rfl rfl rfl ?_
  refine r_bin rfl rfl rfl ?_
  refine mvB rfl ?_
  apply r_guard (s := 7) rfl rfl rfl
  · intro hg; apply opT_of; (refine r_field_pp rfl rfl rfl rfl rfl (by decide) ?_); refine r_nil ?_; exact rfl
  · exact rfl
  · exact rfl
  apply r_guard (s := 7) rfl rfl rfl
  · intro hg; apply opT_strip (s := 8) rfl (by (rw [hg]; rfl)); apply opT_of; (refine r_load_pp rfl rfl rfl rfl ?_); refine r_nil ?_; exact rfl
  · exact rfl
  · exact rfl
  apply r_guard (s := 7) rfl rfl rfl
  · intro hg; apply opT_strip (s := 9) rfl (by (rw [hg]; rfl)); apply opT_of; (refine r_len rfl rfl rfl ?_); refine r_nil ?_; exact rfl
  · exact rfl
  · exact rfl
  apply r_guard (s := 7) rfl rfl rfl
  · intro hg; apply opT_strip (s := 10) rfl (by (rw [hg]; rfl)); apply opT_of; (refine r_bin rfl rfl rfl ?_); refine r_nil ?_; exact rfl
  · exact rfl
  · exact rfl
  refine r_or rfl rfl ?_
  refine mvB rfl ?_
  apply r_guard (s := 13) rfl rfl rfl
  · intro hg; apply opT_of; (refine r_field_pp rfl rfl rfl rfl rfl (by decide) ?_); refine r_nil ?_; exact rfl
  · exact rfl
  · exact rfl
  apply r_guard (s := 13) rfl rfl rfl
  · intro hg; apply opT_strip (s := 14) rfl (by (rw [hg]; rfl)); apply opT_of; (refine r_load_pp rfl rfl rfl rfl ?_); refine r_nil ?_; exact rfl
  · exact rfl
  · exact rfl
  apply r_guard (s := 13) rfl rfl rfl
  · intro hg; apply opT_strip (s := 15) rfl (by (rw [hg]; rfl)); apply opT_of; (refine r_len rfl rfl rfl ?_); refine r_nil ?_; exact rfl
  · exact rfl
  · exact rfl
  apply r_guard (s := 13) rfl rfl rfl
  · intro hg; apply opT_strip (s := 16) rfl (by (rw [hg]; rfl)); apply opT_of; (refine r_bin rfl rfl rfl ?_); refine r_nil ?_; exact rfl
  · exact rfl
  · exact rfl
  refine r_or rfl rfl ?_
  refine asB rfl ?_
  refine r_nil ?_
  refine i_then ?_
  refine t_ret ?_
  refine i_rp1 rfl rfl ?_
  all_goals exact ret_refl rfl rfl
  all_goals trace_state
set_option maxRecDepth 100000 in
theorem c_awake : Ctr Tryz.prog 27 [] (Ty.bool true) := by
  refine fn_intro Tryz.func27 rfl (by decide) Tryz.ntmps27 (by exact Nat.le_of_ble_eq_true rfl) fun w0 M0 => ?_
  refine t_seq ?_
  refine t_region ?_
  refine asB rfl ?_
  refine r_nil ?_
  refine i_then ?_
  refine t_seq ?_
  refine t_region ?_
  refine r_call (c_Two 0 (by decide)) rfl rfl rfl rfl rfl ?_
  refine r_call (c_Bounds (two 0) (two_small (by decide)) 0) rfl rfl rfl rfl rfl ?_
  refine mvT rfl ?_
  refine r_extract rfl rfl ?_
  refine r_extract rfl rfl ?_
  refine asS rfl ?_
  refine asI rfl ?_
  refine r_nil ?_
  refine i_then ?_
  refine t_seq ?_
  refine t_region ?_
  refine r_call (c_Two 0 (by decide)) rfl rfl rfl rfl rfl ?_
  refine r_call (c_Whole (two 0) (two_small (by decide))) rfl rfl rfl rfl rfl ?_
  refine mvT rfl ?_
  refine r_extract rfl rfl ?_
  refine r_extract rfl rfl ?_
  refine asS rfl ?_
  refine asI rfl ?_
  refine r_nil ?_
  refine i_then ?_
  refine t_seq ?_
  refine t_region ?_
  refine r_call (c_Two 1 (by decide)) rfl rfl rfl rfl rfl ?_
  refine r_call (c_Moved (two 1) (two_small (by decide)) 1) rfl rfl rfl rfl rfl ?_
  refine mvT rfl ?_
  refine r_extract rfl rfl ?_
  refine r_extract rfl rfl ?_
  refine r_alloc rfl (by exact List.cons_ne_nil _ _) rfl ?_
  refine r_storeN rfl rfl (by decide) rfl rfl rfl rfl rfl rfl ?_
  refine asI rfl ?_
  refine r_nil ?_
  refine i_then ?_
  refine t_seq ?_
  refine t_region ?_
  refine r_call (c_Two 1 (by decide)) rfl rfl rfl rfl rfl ?_
  refine r_call (c_Surely (two 1) (two_small (by decide)) 0 60) rfl rfl rfl rfl rfl ?_
  refine mvT rfl ?_
  refine r_extract rfl rfl ?_
  refine r_extract rfl rfl ?_
  refine asI rfl ?_
  refine asI rfl ?_
  refine r_nil ?_
  refine i_then ?_
  refine t_seq ?_
  refine t_region ?_
  refine r_build rfl rfl (by exact List.cons_ne_nil _ _) rfl (by repeat (exact (Parts.nil : Parts _ _ [] _))) (by exact (rfl : _ = some [_, _])) ?_
  refine r_build rfl rfl (by exact List.cons_ne_nil _ _) rfl (by repeat (first | exact (Parts.nil : Parts _ _ [] _) | (show Parts _ _ ((_, _) :: _) _; apply Parts.one; (· exact (rfl : _ = Ty.int _ _)); (· exact rfl)))) (by exact (rfl : _ = some [_, _])) ?_
  refine r_build rfl rfl (by exact List.cons_ne_nil _ _) rfl (by repeat (first | exact (Parts.nil : Parts _ _ [] _) | (show Parts _ _ ((_, _) :: _) _; apply Parts.one; (· exact (rfl : _ = Ty.int _ _)); (· exact rfl)))) (by exact (rfl : _ = some [_, _])) ?_
  refine r_buildSlice (E := CelE) (xs := exPrf.cells) rfl rfl rfl rfl rfl (by decide) (by decide) (by repeat (first | exact (Parts.nil : Parts _ _ [] _) | (show Parts _ _ ((_, _) :: _) _; apply Parts.agg; (· exact (rfl : _ = Ty.agg _))))) (by exact rfl) rfl ?_
  refine r_build rfl rfl (by exact List.cons_ne_nil _ _) rfl (by repeat (first | exact (Parts.nil : Parts _ _ [] _) | (show Parts _ _ ((_, _) :: _) _; apply Parts.one; (· exact (rfl : _ = Ty.sl _ _)); (· exact rfl)))) (by exact (rfl : _ = some [_, _])) ?_
  refine r_alloc rfl (by exact List.cons_ne_nil _ _) rfl ?_
  refine r_storeN rfl rfl (by decide) rfl rfl rfl rfl rfl rfl ?_
  refine r_nil ?_
  refine i_then ?_
  refine t_seq ?_
  refine t_draw mixed rfl ?_
  refine r_call (c_Two 2 (by decide)) rfl rfl rfl rfl rfl ?_
  refine r_load_ptrN rfl rfl (by decide) rfl rfl (by exact Nat.le_of_ble_eq_true rfl) ?_
  refine r_call (c_Proves (two 2) (two_small (by decide)) exPrf (by decide)) rfl rfl rfl rfl rfl ?_
  refine mvT rfl ?_
  refine r_extract rfl rfl ?_
  refine r_extract rfl rfl ?_
  refine asI rfl ?_
  refine asI rfl ?_
  refine r_nil ?_
  refine ⟨by kernel_rfl, ?_⟩
  refine i_then ?_
  refine t_seq ?_
  refine t_region ?_
  refine r_call (c_Two 2 (by decide)) rfl rfl rfl rfl rfl ?_
  refine r_call (c_Clash (two 2) (two_small (by decide))) rfl rfl rfl rfl rfl ?_
  refine mvT rfl ?_
  refine r_extract rfl rfl ?_
  refine r_extract rfl rfl ?_
  refine asS rfl ?_
  refine asI rfl ?_
  refine r_nil ?_
  refine i_then ?_
  refine t_seq ?_
  refine t_region ?_
  refine r_call (c_Two 2 (by decide)) rfl rfl rfl rfl rfl ?_
  refine r_call (c_Wrong (two 2) (two_small (by decide))) rfl rfl rfl rfl rfl ?_
  refine mvT rfl ?_
  refine r_extract rfl rfl ?_
  refine r_extract rfl rfl ?_
  refine asS rfl ?_
  refine asI rfl ?_
  refine r_nil ?_
  refine i_then ?_
  refine t_seq ?_
  refine t_region ?_
  refine r_call (c_Two 2 (by decide)) rfl rfl rfl rfl rfl ?_
  refine r_call (c_Some (two 2) (two_small (by decide))) rfl rfl rfl rfl rfl ?_
  refine mvT rfl ?_
  refine r_extract rfl rfl ?_
  refine r_extract rfl rfl ?_
  refine r_alloc rfl (by exact List.cons_ne_nil _ _) rfl ?_
  refine r_storeN rfl rfl (by decide) rfl rfl rfl rfl rfl rfl ?_
  refine asI rfl ?_
  refine r_nil ?_
  refine i_then ?_
  refine t_seq ?_
  refine t_as (s := 1) rfl (Ty.sub_eq (congrArg (Ty.sl SpanE) aw_bnd0)) ?_
  refine t_as (s := 2) rfl (Ty.sub_int aw_b0) ?_
  refine t_as (s := 3) rfl (Ty.sub_eq (congrArg (Ty.sl SpanE) aw_whl)) ?_
  refine t_as (s := 4) rfl (Ty.sub_int (two_open (k := 0) (by decide))) ?_
  refine t_asC (tg := 6) rfl (Cont.sub_cells (congrArg SpanE.tys aw_mov)) ?_
  refine t_as (s := 6) rfl (Ty.sub_int aw_m1) ?_
  refine t_as (s := 7) rfl (Ty.sub_int aw_sur) ?_
  refine t_as (s := 8) rfl (Ty.sub_int aw_s1.1.symm) ?_
  refine t_as (s := 10) rfl (Ty.sub_int aw_prf) ?_
  refine t_as (s := 11) rfl (Ty.sub_int aw_p.1.symm) ?_
  refine t_as (s := 12) rfl (Ty.sub_eq (congrArg (Ty.sl I64) aw_clash)) ?_
  refine t_as (s := 13) rfl (Ty.sub_int aw_cl.1.symm) ?_
  refine t_as (s := 14) rfl (Ty.sub_eq (congrArg (Ty.sl I64) aw_wrong)) ?_
  refine t_as (s := 15) rfl (Ty.sub_int aw_wr.1.symm) ?_
  refine t_as (s := 17) rfl (Ty.sub_int aw_some) ?_
  refine t_forget (B := live [(1, Ty.sl SpanE [⟨20, 30⟩, ⟨60, 90⟩, ⟨20, 80⟩]), (2, Ty.int .i64 0), (3, Ty.sl SpanE [⟨20, 30⟩, ⟨60, 90⟩, ⟨50, 85⟩]), (4, Ty.int .i64 0), (5, Ty.ptr 6 0), (6, Ty.int .i64 0), (7, Ty.int .i64 1), (8, Ty.int .i64 0), (10, Ty.int .i64 1), (11, Ty.int .i64 0), (12, Ty.sl I64 [0, 1]), (13, Ty.int .i64 0), (14, Ty.sl I64 [0]), (15, Ty.int .i64 0), (17, Ty.int .i64 7)] [(6, Cont.cells 37 (SpanE.tys ⟨25, 35⟩))]) ?_ ?_
  · (refine Ent.mk' ?_ ?_ <;> (repeat' (first | exact allSub_zero | exact allTags_nil | refine allSub_succ' ?_ (Ty.sub_any _) | refine allSub_succ' ?_ (Ty.sub_refl _) | refine allTags_cons rfl (Cont.sub_refl _) ?_)))
  refine t_draw mixed rfl ?_
  refine mvI rfl ?_
  refine r_bin rfl rfl rfl ?_
  refine mvB rfl ?_
  apply r_guard (s := 66) rfl rfl rfl
  · intro hg; apply opT_of; (refine mvI rfl ?_); refine r_nil ?_; exact rfl
  · exact rfl
  · exact rfl
  apply r_guard (s := 66) rfl rfl rfl
  · intro hg; apply opT_strip (s := 67) rfl (by exact hg); apply opT_of; (refine r_bin rfl rfl rfl ?_); refine r_nil ?_; exact rfl
  · exact rfl
  · exact rfl
  refine r_and rfl rfl ?_
  refine mvB rfl ?_
  apply r_guard (s := 70) rfl rfl rfl
  · intro hg; apply opT_of; (refine mvI rfl ?_); refine r_nil ?_; exact rfl
  · exact rfl
  · exact rfl
  apply r_guard (s := 70) rfl rfl rfl
  · intro hg; apply opT_strip (s := 71) rfl (by exact hg); apply opT_of; (refine r_bin rfl rfl rfl ?_); refine r_nil ?_; exact rfl
  · exact rfl
  · exact rfl
  refine r_and rfl rfl ?_
  refine mvB rfl ?_
  apply r_guard (s := 74) rfl rfl rfl
  · intro hg; apply opT_of; (refine mvI rfl ?_); refine r_nil ?_; exact rfl
  · exact rfl
  · exact rfl
  apply r_guard (s := 74) rfl rfl rfl
  · intro hg; apply opT_strip (s := 75) rfl (by exact hg); apply opT_of; (refine r_bin rfl rfl rfl ?_); refine r_nil ?_; exact rfl
  · exact rfl
  · exact rfl
  refine r_and rfl rfl ?_
  refine mvB rfl ?_
  apply r_guard (s := 78) rfl rfl rfl
  · intro hg; apply opT_of; (refine mvI rfl ?_); refine r_nil ?_; exact rfl
  · exact rfl
  · exact rfl
  apply r_guard (s := 78) rfl rfl rfl
  · intro hg; apply opT_strip (s := 79) rfl (by exact hg); apply opT_of; (refine r_bin rfl rfl rfl ?_); refine r_nil ?_; exact rfl
  · exact rfl
  · exact rfl
  refine r_and rfl rfl ?_
  refine mvB rfl ?_
  apply r_guard (s := 82) rfl rfl rfl
  · intro hg; apply opT_of; (refine mvI rfl ?_); refine r_nil ?_; exact rfl
  · exact rfl
  · exact rfl
  apply r_guard (s := 82) rfl rfl rfl
  · intro hg; apply opT_strip (s := 83) rfl (by exact hg); apply opT_of; (refine r_bin rfl rfl rfl ?_); refine r_nil ?_; exact rfl
  · exact rfl
  · exact rfl
  refine r_and rfl rfl ?_
  refine mvB rfl ?_
  apply r_guard (s := 86) rfl rfl rfl
  · intro hg; apply opT_of; (refine mvI rfl ?_); refine r_nil ?_; exact rfl
  · exact rfl
  · exact rfl
  apply r_guard (s := 86) rfl rfl rfl
  · intro hg; apply opT_strip (s := 87) rfl (by exact hg); apply opT_of; (refine r_bin rfl rfl rfl ?_); refine r_nil ?_; exact rfl
  · exact rfl
  · exact rfl
  refine r_and rfl rfl ?_
  refine mvB rfl ?_
  apply r_guard (s := 90) rfl rfl rfl
  · intro hg; apply opT_of; (refine mvI rfl ?_); refine r_nil ?_; exact rfl
  · exact rfl
  · exact rfl
  apply r_guard (s := 90) rfl rfl rfl
  · intro hg; apply opT_strip (s := 91) rfl (by exact hg); apply opT_of; (refine r_bin rfl rfl rfl ?_); refine r_nil ?_; exact rfl
  · exact rfl
  · exact rfl
  refine r_and rfl rfl ?_
  refine mvB rfl ?_
  apply r_guard (s := 94) rfl rfl rfl
  · intro hg; apply opT_of; (refine mvS rfl ?_); refine r_nil ?_; exact rfl
  · exact rfl
  · exact rfl
  apply r_guard (s := 94) rfl rfl rfl
  · intro hg; apply opT_of; (refine r_call (c_span _ _) rfl rfl rfl rfl rfl ?_); refine r_nil ?_; exact rfl
  · exact rfl
  · exact rfl
  apply r_guard (s := 94) rfl rfl rfl
  · intro hg; apply opT_of; (refine r_call (c_span _ _) rfl rfl rfl rfl rfl ?_); refine r_nil ?_; exact rfl
  · exact rfl
  · exact rfl
  apply r_guard (s := 94) rfl rfl rfl
  · intro hg; apply opT_of; (refine r_call (c_span _ _) rfl rfl rfl rfl rfl ?_); refine r_nil ?_; exact rfl
  · exact rfl
  · exact rfl
  apply r_guard (s := 94) rfl rfl rfl
  · intro hg; apply opT_strip (s := 96) rfl (by exact hg); apply opT_strip (s := 97) rfl (by exact hg); apply opT_strip (s := 98) rfl (by exact hg); apply opT_of; (refine r_buildSlice (E := SpanE) (xs := [⟨20, 30⟩, ⟨60, 90⟩, ⟨20, 80⟩]) rfl rfl rfl rfl rfl (by decide) (by decide) (by repeat (first | exact (Parts.nil : Parts _ _ [] _) | (show Parts _ _ ((_, _) :: _) _; apply Parts.agg; (· exact (rfl : _ = Ty.agg _))))) (by exact rfl) rfl ?_); refine r_nil ?_; exact rfl
  · exact rfl
  · exact rfl
  apply r_guard (s := 94) rfl rfl rfl
  · intro hg; apply opT_strip (s := 95) rfl (by exact hg); apply opT_strip (s := 99) rfl (by exact hg); apply opT_of; (refine r_call (c_Eq_spn _ _) rfl rfl rfl rfl rfl ?_); refine r_nil ?_; exact rfl
  · exact rfl
  · exact rfl
  refine r_and rfl rfl ?_
  refine mvB rfl ?_
  apply r_guard (s := 102) rfl rfl rfl
  · intro hg; apply opT_of; (refine mvS rfl ?_); refine r_nil ?_; exact rfl
  · exact rfl
  · exact rfl
  apply r_guard (s := 102) rfl rfl rfl
  · intro hg; apply opT_of; (refine r_call (c_span _ _) rfl rfl rfl rfl rfl ?_); refine r_nil ?_; exact rfl
  · exact rfl
  · exact rfl
  apply r_guard (s := 102) rfl rfl rfl
  · intro hg; apply opT_of; (refine r_call (c_span _ _) rfl rfl rfl rfl rfl ?_); refine r_nil ?_; exact rfl
  · exact rfl
  · exact rfl
  apply r_guard (s := 102) rfl rfl rfl
  · intro hg; apply opT_of; (refine r_call (c_span _ _) rfl rfl rfl rfl rfl ?_); refine r_nil ?_; exact rfl
  · exact rfl
  · exact rfl
  apply r_guard (s := 102) rfl rfl rfl
  · intro hg; apply opT_strip (s := 104) rfl (by exact hg); apply opT_strip (s := 105) rfl (by exact hg); apply opT_strip (s := 106) rfl (by exact hg); apply opT_of; (refine r_buildSlice (E := SpanE) (xs := [⟨20, 30⟩, ⟨60, 90⟩, ⟨50, 85⟩]) rfl rfl rfl rfl rfl (by decide) (by decide) (by repeat (first | exact (Parts.nil : Parts _ _ [] _) | (show Parts _ _ ((_, _) :: _) _; apply Parts.agg; (· exact (rfl : _ = Ty.agg _))))) (by exact rfl) rfl ?_); refine r_nil ?_; exact rfl
  · exact rfl
  · exact rfl
  apply r_guard (s := 102) rfl rfl rfl
  · intro hg; apply opT_strip (s := 103) rfl (by exact hg); apply opT_strip (s := 107) rfl (by exact hg); apply opT_of; (refine r_call (c_Eq_spn _ _) rfl rfl rfl rfl rfl ?_); refine r_nil ?_; exact rfl
  · exact rfl
  · exact rfl
  refine r_and rfl rfl ?_
  refine mvB rfl ?_
  apply r_guard (s := 110) rfl rfl rfl
  · intro hg; apply opT_of; (refine r_load_ptrN rfl rfl (by decide) rfl rfl (by exact Nat.le_of_ble_eq_true rfl) ?_); refine r_nil ?_; exact rfl
  · exact rfl
  · exact rfl
  apply r_guard (s := 110) rfl rfl rfl
  · intro hg; apply opT_of; (refine r_call (c_span _ _) rfl rfl rfl rfl rfl ?_); refine r_nil ?_; exact rfl
  · exact rfl
  · exact rfl
  apply r_guard (s := 110) rfl rfl rfl
  · intro hg; apply opT_strip (s := 111) rfl (by exact hg); apply opT_strip (s := 112) rfl (by exact hg); apply opT_of; (refine r_eql_A (eqt37 _ _ _ _) rfl rfl ?_); refine r_nil ?_; exact rfl
  · exact rfl
  · exact rfl
  refine r_and rfl rfl ?_
  refine mvB rfl ?_
  apply r_guard (s := 115) rfl rfl rfl
  · intro hg; apply opT_of; (refine mvI rfl ?_); refine r_nil ?_; exact rfl
  · exact rfl
  · exact rfl
  apply r_guard (s := 115) rfl rfl rfl
  · intro hg; apply opT_strip (s := 116) rfl (by exact hg); apply opT_of; (refine r_bin rfl rfl rfl ?_); refine r_nil ?_; exact rfl
  · exact rfl
  · exact rfl
  refine r_and rfl rfl ?_
  refine mvB rfl ?_
  apply r_guard (s := 119) rfl rfl rfl
  · intro hg; apply opT_of; (refine mvI rfl ?_); refine r_nil ?_; exact rfl
  · exact rfl
  · exact rfl
  apply r_guard (s := 119) rfl rfl rfl
  · intro hg; apply opT_strip (s := 120) rfl (by exact hg); apply opT_of; (refine r_bin rfl rfl rfl ?_); refine r_nil ?_; exact rfl
  · exact rfl
  · exact rfl
  refine r_and rfl rfl ?_
  refine mvB rfl ?_
  apply r_guard (s := 123) rfl rfl rfl
  · intro hg; apply opT_of; (refine mvS rfl ?_); refine r_nil ?_; exact rfl
  · exact rfl
  · exact rfl
  apply r_guard (s := 123) rfl rfl rfl
  · intro hg; apply opT_of; (refine r_buildSlice (E := I64) (xs := [0, 1]) rfl rfl rfl rfl rfl (by decide) (by decide) (by repeat (first | exact (Parts.nil : Parts _ _ [] _) | (show Parts _ _ ((_, _) :: _) _; apply Parts.one; (· exact (rfl : _ = Ty.int _ _)); (· exact rfl)))) (by exact rfl) rfl ?_); refine r_nil ?_; exact rfl
  · exact rfl
  · exact rfl
  apply r_guard (s := 123) rfl rfl rfl
  · intro hg; apply opT_strip (s := 124) rfl (by exact hg); apply opT_strip (s := 125) rfl (by exact hg); apply opT_of; (refine r_call (c_Eq_int _ _) rfl rfl rfl rfl rfl ?_); refine r_nil ?_; exact rfl
  · exact rfl
  · exact rfl
  refine r_and rfl rfl ?_
  refine mvB rfl ?_
  apply r_guard (s := 128) rfl rfl rfl
  · intro hg; apply opT_of; (refine mvS rfl ?_); refine r_nil ?_; exact rfl
  · exact rfl
  · exact rfl
  apply r_guard (s := 128) rfl rfl rfl
  · intro hg; apply opT_of; (refine r_buildSlice (E := I64) (xs := [0]) rfl rfl rfl rfl rfl (by decide) (by decide) (by repeat (first | exact (Parts.nil : Parts _ _ [] _) | (show Parts _ _ ((_, _) :: _) _; apply Parts.one; (· exact (rfl : _ = Ty.int _ _)); (· exact rfl)))) (by exact rfl) rfl ?_); refine r_nil ?_; exact rfl
  · exact rfl
  · exact rfl
  apply r_guard (s := 128) rfl rfl rfl
  · intro hg; apply opT_strip (s := 129) rfl (by exact hg); apply opT_strip (s := 130) rfl (by exact hg); apply opT_of; (refine r_call (c_Eq_int _ _) rfl rfl rfl rfl rfl ?_); refine r_nil ?_; exact rfl
  · exact rfl
  · exact rfl
  refine r_and rfl rfl ?_
  refine asB rfl ?_
  refine r_nil ?_
  refine ⟨by kernel_rfl, ?_⟩
  refine i_then ?_
  refine t_ret ?_
  refine i_rp1 rfl rfl ?_
  all_goals exact ret_refl rfl rfl
  all_goals trace_state
end Go.Proofs.YtelbollidfdcjaaGreat

namespace Go.Proofs.YtelbollidfdcjaaGreat
open Go Go.T
set_option maxHeartbeats 4000000
theorem off_in (n lo hi : Int) : offB n lo hi = !inB n lo hi := by
  rw [Bool.eq_iff_iff]
  simp only [offB, Bool.or_eq_true, decide_eq_true_eq, Bool.not_eq_true', Bool.eq_false_iff, ne_eq, inB_true]
  omega
def wideR (s : Span) : Bool := offB s.lo 0 300 || offB s.hi 0 300
def manyR (y : Yard) : Bool := ((offB y.days 1 5 || offB y.bins.length 1 4) || decide ((y.moves.length : Int) > 10)) || decide ((y.levels.length : Int) > 8)
def spanB (b : Bin) : Bool := offB b.holds 0 300 || wideR b.first
def ordB (b : Bin) : Bool := decide (b.first.lo > b.first.hi)
def spanM (m : Move) : Bool := wideR m.sacks
def notM (y : Yard) (m : Move) : Bool := (offB m.day 0 (y.days - 1) || offB m.src (-1) ((y.bins.length : Int) - 1)) || offB m.dst (-1) ((y.bins.length : Int) - 1)
def twoM (m : Move) : Bool := decide (m.src = m.dst)
def ordM (m : Move) : Bool := decide (m.sacks.lo > m.sacks.hi)
def spanL (l : Level) : Bool := wideR l.sacks
def notL (y : Yard) (l : Level) : Bool := offB l.day 0 y.days || offB l.bin 0 ((y.bins.length : Int) - 1)
def ordL (l : Level) : Bool := decide (l.sacks.lo > l.sacks.hi)
def anyUp {α : Type} (p : α → Bool) (l : List α) (k : Nat) : Bool := (l.take k).any p
section
variable {α : Type} {p : α → Bool} {l : List α} {k : Nat}
theorem anyUp_succ [Inhabited α] (h : k < l.length) : (anyUp p l k || p (nth l k)) = anyUp p l (k + 1) := by
  unfold anyUp; rw [take_nth h, List.any_append]; simp
theorem anyUp_all (h : ¬ (k : Int) < (l.length : Int)) : anyUp p l k = l.any p := by
  unfold anyUp; rw [List.take_of_length_le (by omega)]
end
def spR (y : Yard) : Bool := (y.bins.any spanB || y.moves.any spanM) || y.levels.any spanL
def noR (y : Yard) : Bool := y.moves.any (notM y) || y.levels.any (notL y)
def twR (y : Yard) : Bool := y.moves.any twoM
def orR (y : Yard) : Bool := (y.bins.any ordB || y.moves.any ordM) || y.levels.any ordL
def checkR (y : Yard) : Int := if manyR y = true then 2 else if spR y = true then 3 else if noR y = true then 1 else if twR y = true then 5 else if orR y = true then 4 else 0
theorem any_all {α : Type} {p q : α → Bool} {l : List α} (h : ∀ x ∈ l, p x = !q x) : l.any p = !l.all q := by
  induction l with
  | nil => rfl
  | cons x l ih => rw [List.any_cons, List.all_cons, ih fun y hy => h y (List.mem_cons_of_mem _ hy), h x List.mem_cons_self, Bool.not_and]
theorem wide_allowed (s : Span) : wideR s = !allowedB s := by unfold wideR allowedB; rw [off_in, off_in, Bool.not_and]
theorem many_eq (y : Yard) : manyR y = manyY y := by unfold manyR manyY; rw [off_in, off_in]
theorem sp_eq (y : Yard) : spR y = (rangeY y || range2Y y) := by
  unfold spR rangeY range2Y
  rw [any_all (q := fun b : Bin => inB b.holds 0 300 && allowedB b.first) fun b _ => by unfold spanB; rw [off_in, wide_allowed, Bool.not_and],
    any_all (p := spanM) (q := fun m : Move => allowedB m.sacks) fun m _ => wide_allowed _, any_all (p := spanL) (q := fun m : Level => allowedB m.sacks) fun m _ => wide_allowed _, Bool.or_assoc]
theorem fin_off (y : Yard) (n : Int) : offB n (-1) ((y.bins.length : Int) - 1) = !y.fin n := by
  unfold Yard.fin Yard.bin
  rw [off_in]
  congr 1
  rw [Bool.eq_iff_iff]
  simp only [Bool.or_eq_true, decide_eq_true_eq, inB_true]
  omega
theorem no_eq (y : Yard) : noR y = (notY y || not2Y y) := by
  unfold noR notY not2Y
  rw [any_all (q := fun m : Move => (inB m.day 0 (y.days - 1) && y.fin m.src) && y.fin m.dst) fun m _ => by unfold notM; rw [off_in, fin_off, fin_off, Bool.not_and, Bool.not_and],
    any_all (p := notL y) (q := fun l : Level => y.time l.day && y.bin l.bin) fun l _ => by unfold notL Yard.time Yard.bin; rw [off_in, off_in, Bool.not_and]]
theorem tw_eq (y : Yard) : twR y = twiceY y := by
  unfold twR twiceY
  exact any_all fun m _ => by unfold twoM; rw [Bool.not_not]
theorem or_eq (y : Yard) : orR y = orderY y := by
  have e : ∀ s : Span, decide (s.lo > s.hi) = !risingB s := fun s => by
    unfold risingB; rw [Bool.eq_iff_iff]; simp only [decide_eq_true_eq, Bool.not_eq_true', decide_eq_false_iff_not]; omega
  unfold orR orderY
  rw [any_all (p := ordB) (q := fun b : Bin => risingB b.first) fun b _ => e _, any_all (p := ordM) (q := fun b : Move => risingB b.sacks) fun b _ => e _, any_all (p := ordL) (q := fun b : Level => risingB b.sacks) fun b _ => e _]
theorem check_eq (y : Yard) : checkR y = checkY y := by
  unfold checkR checkY
  rw [many_eq, sp_eq, no_eq, tw_eq, or_eq]
  cases manyY y <;> cases rangeY y <;> cases range2Y y <;> cases notY y <;> cases not2Y y <;> rfl
theorem or3 (a b c d : Bool) : (((a || b) || c) || d) = (a || ((b || c) || d)) := by cases a <;> rfl
theorem or3' (a b c d : Bool) : (((a || b) || c) || d) = (a || (b || (c || d))) := by cases a <;> cases b <;> rfl
section
variable {y : Yard} {b c : Bool}
theorem ck_1 (h : manyR y = true) : 2 = checkR y := (if_pos h).symm
theorem ck_2 (h : manyR y = false) (h1 : b = true) (e : b = spR y) : 3 = checkR y := by unfold checkR; rw [if_neg (ng h), if_pos (e ▸ h1)]
theorem ck_3 (h : manyR y = false) (h1 : b = false) (e : b = spR y) {b2 : Bool} (h2 : b2 = true) (e2 : b2 = noR y) : 1 = checkR y := by
  subst e; subst e2; unfold checkR; rw [if_neg (ng h), if_neg (ng h1), if_pos h2]
theorem ck_4 (h : manyR y = false) (h1 : b = false) (e : b = spR y) {b2 b3 : Bool} (h2 : b2 = false) (e2 : b2 = noR y) (h3 : b3 = true) (e3 : b3 = twR y) : 5 = checkR y := by
  subst e; subst e2; subst e3; unfold checkR; rw [if_neg (ng h), if_neg (ng h1), if_neg (ng h2), if_pos h3]
theorem ck_5 (h : manyR y = false) (h1 : b = false) (e : b = spR y) {b2 b3 b4 : Bool} (h2 : b2 = false) (e2 : b2 = noR y) (h3 : b3 = false) (e3 : b3 = twR y) (h4 : b4 = true) (e4 : b4 = orR y) : 4 = checkR y := by
  subst e; subst e2; subst e3; subst e4; unfold checkR; rw [if_neg (ng h), if_neg (ng h1), if_neg (ng h2), if_neg (ng h3), if_pos h4]
theorem ck_6 (h : manyR y = false) (h1 : b = false) (e : b = spR y) {b2 b3 b4 : Bool} (h2 : b2 = false) (e2 : b2 = noR y) (h3 : b3 = false) (e3 : b3 = twR y) (h4 : b4 = false) (e4 : b4 = orR y) : 0 = checkR y := by
  subst e; subst e2; subst e3; subst e4; unfold checkR; rw [if_neg (ng h), if_neg (ng h1), if_neg (ng h2), if_neg (ng h3), if_neg (ng h4)]
theorem many_days' (h : manyR y = false) : (1 ≤ y.days ∧ y.days ≤ 5) ∧ (1 ≤ (y.bins.length : Int) ∧ (y.bins.length : Int) ≤ 4) := by
  unfold manyR at h
  simp only [Bool.or_eq_false_iff, off_in, Bool.not_eq_false', inB_true] at h
  exact h.1.1
end
attribute [local irreducible] dInt dBool dSl dPp dPtr dAgg dTup dClo dAny dEx dStr dGd dCells dVec dVs dRow dOp nth Tri Into TOps Ctr bodyPost Exit.then Exit.inBlock Code.wp Code.wpIn dWhen dPa dPe dAo dArr dMp dPm dMap dCJ CtrG CtrI OpY keepPost iterPost bodyPostM roundQ
set_option maxRecDepth 100000 in
theorem c_off (n lo hi : Int) : Ctr Tryz.prog 97 [Ty.int .i64 n, Ty.int .i64 lo, Ty.int .i64 hi] (Ty.bool (offB n lo hi)) := by
  refine fn_intro Tryz.func97 rfl (by decide) Tryz.ntmps97 (by exact Nat.le_of_ble_eq_true rfl) fun w0 M0 => ?_
  refine t_seq ?_
  refine t_region ?_
  refine asB rfl ?_
  refine r_nil ?_
  refine i_then ?_
  refine t_seq ?_
  refine t_region ?_
  refine mvI rfl ?_
  refine mvI rfl ?_
  refine r_bin rfl rfl rfl ?_
  refine mvB rfl ?_
  apply r_guard (s := 10) rfl rfl rfl
  · intro hg; apply opT_of; (refine mvI rfl ?_); refine r_nil ?_; exact rfl
  · exact rfl
  · exact rfl
  apply r_guard (s := 10) rfl rfl rfl
  · intro hg; apply opT_of; (refine mvI rfl ?_); refine r_nil ?_; exact rfl
  · exact rfl
  · exact rfl
  apply r_guard (s := 10) rfl rfl rfl
  · intro hg; apply opT_strip (s := 11) rfl (by (rw [hg]; rfl)); apply opT_strip (s := 12) rfl (by (rw [hg]; rfl)); apply opT_of; (refine r_bin rfl rfl rfl ?_); refine r_nil ?_; exact rfl
  · exact rfl
  · exact rfl
  refine r_or rfl rfl ?_
  refine asB rfl ?_
  refine r_nil ?_
  refine i_then ?_
  refine t_ret ?_
  refine i_rp1 rfl rfl ?_
  all_goals exact ret_refl rfl rfl
set_option maxRecDepth 100000 in
theorem c_wideS (s : Span) : Ctr Tryz.prog 98 [Ty.agg (SpanE.tys s)] (Ty.bool (wideR s)) := by
  refine fn_intro Tryz.func98 rfl (by decide) Tryz.ntmps98 (by exact Nat.le_of_ble_eq_true rfl) fun w0 M0 => ?_
  refine t_seq ?_
  refine t_region ?_
  refine r_box_agg rfl ?_
  refine asB rfl ?_
  refine r_nil ?_
  refine i_then ?_
  refine t_seq ?_
  refine t_region ?_
  refine r_field_pp rfl rfl rfl rfl rfl (by decide) ?_
  refine r_load_pp rfl rfl rfl rfl ?_
  refine r_call (c_off _ _ _) rfl rfl rfl rfl rfl ?_
  refine mvB rfl ?_
  apply r_guard (s := 6) rfl rfl rfl
  · intro hg; apply opT_of; (refine r_field_pp rfl rfl rfl rfl rfl (by decide) ?_); refine r_nil ?_; exact rfl
  · exact rfl
  · exact rfl
  apply r_guard (s := 6) rfl rfl rfl
  · intro hg; apply opT_strip (s := 7) rfl (by (rw [hg]; rfl)); apply opT_of; (refine r_load_pp rfl rfl rfl rfl ?_); refine r_nil ?_; exact rfl
  · exact rfl
  · exact rfl
  apply r_guard (s := 6) rfl rfl rfl
  · intro hg; apply opT_strip (s := 8) rfl (by (rw [hg]; rfl)); apply opT_of; (refine r_call (c_off _ _ _) rfl rfl rfl rfl rfl ?_); refine r_nil ?_; exact rfl
  · exact rfl
  · exact rfl
  refine r_or rfl rfl ?_
  refine asB rfl ?_
  refine r_nil ?_
  refine i_then ?_
  refine t_ret ?_
  refine i_rp1 rfl rfl ?_
  all_goals exact ret_refl rfl rfl
set_option maxRecDepth 100000 in
theorem c_rCheck (y : Yard) (hs : y.Small) : Ctr Tryz.prog 31 [yardT y] (Ty.int .i64 (checkR y)) := by
  refine fn_intro Tryz.func31 rfl (by decide) Tryz.ntmps31 (by exact Nat.le_of_ble_eq_true rfl) fun w0 M0 => ?_
  have hs1 := hs.bins
  have hs2 := hs.moves
  have hs3 := hs.levels
  refine t_seq ?_
  refine t_region ?_
  refine r_box_agg rfl ?_
  refine asI rfl ?_
  refine r_nil ?_
  refine i_then ?_
  refine t_seq ?_
  refine t_seq ?_
  refine t_region ?_
  refine r_field_pp rfl rfl rfl rfl rfl (by decide) ?_
  refine r_load_pp rfl rfl rfl rfl ?_
  refine r_call (c_off _ _ _) rfl rfl rfl rfl rfl ?_
  refine mvB rfl ?_
  apply r_guard (s := 15) rfl rfl rfl
  · intro hg; apply opT_of; (refine r_field_pp rfl rfl rfl rfl rfl (by decide) ?_); refine r_nil ?_; exact rfl
  · exact rfl
  · exact rfl
  apply r_guard (s := 15) rfl rfl rfl
  · intro hg; apply opT_strip (s := 16) rfl (by (rw [hg]; rfl)); apply opT_of; (refine r_load_pp rfl rfl rfl rfl ?_); refine r_nil ?_; exact rfl
  · exact rfl
  · exact rfl
  apply r_guard (s := 15) rfl rfl rfl
  · intro hg; apply opT_strip (s := 17) rfl (by (rw [hg]; rfl)); apply opT_of; (refine r_len rfl rfl rfl ?_); refine r_nil ?_; exact rfl
  · exact rfl
  · exact rfl
  apply r_guard (s := 15) rfl rfl rfl
  · intro hg; apply opT_strip (s := 18) rfl (by (rw [hg]; rfl)); apply opT_of; (refine r_call (c_off _ _ _) rfl rfl rfl rfl rfl ?_); refine r_nil ?_; exact rfl
  · exact rfl
  · exact rfl
  refine r_or rfl rfl ?_
  refine mvB rfl ?_
  apply r_guard (s := 21) rfl rfl rfl
  · intro hg; apply opT_of; (refine r_field_pp rfl rfl rfl rfl rfl (by decide) ?_); refine r_nil ?_; exact rfl
  · exact rfl
  · exact rfl
  apply r_guard (s := 21) rfl rfl rfl
  · intro hg; apply opT_strip (s := 22) rfl (by (rw [hg]; rfl)); apply opT_of; (refine r_load_pp rfl rfl rfl rfl ?_); refine r_nil ?_; exact rfl
  · exact rfl
  · exact rfl
  apply r_guard (s := 21) rfl rfl rfl
  · intro hg; apply opT_strip (s := 23) rfl (by (rw [hg]; rfl)); apply opT_of; (refine r_len rfl rfl rfl ?_); refine r_nil ?_; exact rfl
  · exact rfl
  · exact rfl
  apply r_guard (s := 21) rfl rfl rfl
  · intro hg; apply opT_strip (s := 24) rfl (by (rw [hg]; rfl)); apply opT_of; (refine r_bin rfl rfl rfl ?_); refine r_nil ?_; exact rfl
  · exact rfl
  · exact rfl
  refine r_or rfl rfl ?_
  refine mvB rfl ?_
  apply r_guard (s := 27) rfl rfl rfl
  · intro hg; apply opT_of; (refine r_field_pp rfl rfl rfl rfl rfl (by decide) ?_); refine r_nil ?_; exact rfl
  · exact rfl
  · exact rfl
  apply r_guard (s := 27) rfl rfl rfl
  · intro hg; apply opT_strip (s := 28) rfl (by (rw [hg]; rfl)); apply opT_of; (refine r_load_pp rfl rfl rfl rfl ?_); refine r_nil ?_; exact rfl
  · exact rfl
  · exact rfl
  apply r_guard (s := 27) rfl rfl rfl
  · intro hg; apply opT_strip (s := 29) rfl (by (rw [hg]; rfl)); apply opT_of; (refine r_len rfl rfl rfl ?_); refine r_nil ?_; exact rfl
  · exact rfl
  · exact rfl
  apply r_guard (s := 27) rfl rfl rfl
  · intro hg; apply opT_strip (s := 30) rfl (by (rw [hg]; rfl)); apply opT_of; (refine r_bin rfl rfl rfl ?_); refine r_nil ?_; exact rfl
  · exact rfl
  · exact rfl
  refine r_or rfl rfl ?_
  refine r_nil ?_
  refine i_then ?_
  refine t_cond rfl (fun hc1 => ?_) (fun hc1 => ?_)
  ·
    refine t_seq ?_
    refine t_region ?_
    refine asI rfl ?_
    refine r_nil ?_
    refine i_then ?_
    refine t_ret ?_
    refine i_then_ret ?_
    refine i_rp1 rfl rfl ?_
    all_goals skip
    exact ret_eq rfl rfl (congrArg (Ty.int .i64) (ck_1 hc1))
  ·
    refine t_skip ?_
    refine i_then ?_
    refine t_seq ?_
    have hmy := many_days' hc1
    refine t_region ?_
    refine asB rfl ?_
    refine asB rfl ?_
    refine asB rfl ?_
    refine asB rfl ?_
    refine r_nil ?_
    refine i_then ?_
    refine t_seq ?_
    refine t_seq ?_
    refine t_region ?_
    refine asI rfl ?_
    refine r_nil ?_
    refine i_then ?_
    refine t_block ?_
    refine t_loop (fun (k : {k : Nat // k ≤ y.bins.length}) => live [(1, Ty.pp (yardTys y)), (3, Ty.bool (anyUp spanB y.bins k.1)), (4, Ty.bool false), (5, Ty.bool false), (6, Ty.bool (anyUp ordB y.bins k.1)), (7, Ty.int .i64 (k.1 : Nat))] []) (fun k => y.bins.length - k.1) (⟨0, by omega⟩) ?_ fun k => ?_
    · (refine Ent.mk' ?_ ?_ <;> (repeat' (first | exact allSub_zero | exact allTags_nil | refine allSub_succ' ?_ (Ty.sub_any _) | refine allSub_succ' ?_ (Ty.sub_refl _))))
      all_goals trace_state
    ·
      have hk := k.2
      refine t_seq ?_
      refine t_seq ?_
      refine t_region ?_
      refine mvI rfl ?_
      refine r_field_pp rfl rfl rfl rfl rfl (by decide) ?_
      refine r_load_pp rfl rfl rfl rfl ?_
      refine r_len rfl rfl rfl ?_
      refine r_bin rfl rfl rfl ?_
      refine r_nil ?_
      refine i_then ?_
      refine t_cond_dec rfl (fun hc2 => ?_) (fun hc2 => ?_)
      ·
        refine t_skip ?_
        refine i_then ?_
        refine t_seq ?_
        refine t_block ?_
        refine t_seq ?_
        refine t_region ?_
        refine mvB rfl ?_
        refine mvB rfl ?_
        apply r_guard (s := 41) rfl rfl rfl
        · intro hg; apply opT_of; (refine r_field_pp rfl rfl rfl rfl rfl (by decide) ?_); refine r_nil ?_; exact rfl
        · exact rfl
        · exact rfl
        apply r_guard (s := 41) rfl rfl rfl
        · intro hg; apply opT_strip (s := 42) rfl (by (rw [hg]; rfl)); apply opT_of; (refine r_load_pp rfl rfl rfl rfl ?_); refine r_nil ?_; exact rfl
        · exact rfl
        · exact rfl
        apply r_guard (s := 41) rfl rfl rfl
        · intro hg; apply opT_of; (refine mvI rfl ?_); refine r_nil ?_; exact rfl
        · exact rfl
        · exact rfl
        apply r_guard (s := 41) rfl rfl rfl
        · intro hg; apply opT_strip (s := 43) rfl (by (rw [hg]; rfl)); apply opT_strip (s := 44) rfl (by (rw [hg]; rfl)); apply opT_of; (refine r_index_slN rfl rfl rfl rfl rfl rfl (by omega) ?_); refine r_nil ?_; exact rfl
        · exact rfl
        · exact rfl
        apply r_guard (s := 41) rfl rfl rfl
        · intro hg; apply opT_strip (s := 45) rfl (by (rw [hg]; rfl)); apply opT_of; (refine r_field_pp rfl rfl rfl rfl rfl (by decide) ?_); refine r_nil ?_; exact rfl
        · exact rfl
        · exact rfl
        apply r_guard (s := 41) rfl rfl rfl
        · intro hg; apply opT_strip (s := 46) rfl (by (rw [hg]; rfl)); apply opT_of; (refine r_load_pp rfl rfl rfl rfl ?_); refine r_nil ?_; exact rfl
        · exact rfl
        · exact rfl
        apply r_guard (s := 41) rfl rfl rfl
        · intro hg; apply opT_strip (s := 47) rfl (by (rw [hg]; rfl)); apply opT_of; (refine r_call (c_off _ _ _) rfl rfl rfl rfl rfl ?_); refine r_nil ?_; exact rfl
        · exact rfl
        · exact rfl
        refine r_or rfl rfl ?_
        refine mvB rfl ?_
        apply r_guard (s := 50) rfl rfl rfl
        · intro hg; apply opT_of; (refine r_field_pp rfl rfl rfl rfl rfl (by decide) ?_); refine r_nil ?_; exact rfl
        · exact rfl
        · exact rfl
        apply r_guard (s := 50) rfl rfl rfl
        · intro hg; apply opT_strip (s := 51) rfl (by (rw [hg]; rfl)); apply opT_of; (refine r_load_pp rfl rfl rfl rfl ?_); refine r_nil ?_; exact rfl
        · exact rfl
        · exact rfl
        apply r_guard (s := 50) rfl rfl rfl
        · intro hg; apply opT_of; (refine mvI rfl ?_); refine r_nil ?_; exact rfl
        · exact rfl
        · exact rfl
        apply r_guard (s := 50) rfl rfl rfl
        · intro hg; apply opT_strip (s := 52) rfl (by (rw [hg]; rfl)); apply opT_strip (s := 53) rfl (by (rw [hg]; rfl)); apply opT_of; (refine r_index_slN rfl rfl rfl rfl rfl rfl (by omega) ?_); refine r_nil ?_; exact rfl
        · exact rfl
        · exact rfl
        apply r_guard (s := 50) rfl rfl rfl
        · intro hg; apply opT_strip (s := 54) rfl (by (rw [hg]; rfl)); apply opT_of; (refine r_field_pp rfl rfl rfl rfl rfl (by decide) ?_); refine r_nil ?_; exact rfl
        · exact rfl
        · exact rfl
        apply r_guard (s := 50) rfl rfl rfl
        · intro hg; apply opT_strip (s := 55) rfl (by (rw [hg]; rfl)); apply opT_of; (refine r_load_ppN rfl rfl rfl (by exact Nat.le_of_ble_eq_true rfl) ?_); refine r_nil ?_; exact rfl
        · exact rfl
        · exact rfl
        apply r_guard (s := 50) rfl rfl rfl
        · intro hg; apply opT_strip (s := 56) rfl (by (rw [hg]; rfl)); apply opT_of; (refine r_call (c_wideS _) rfl rfl rfl rfl rfl ?_); refine r_nil ?_; exact rfl
        · exact rfl
        · exact rfl
        refine r_or rfl rfl ?_
        refine asB rfl ?_
        refine r_nil ?_
        refine i_then ?_
        refine t_draw mixed rfl ?_
        refine mvB rfl ?_
        refine mvB rfl ?_
        apply r_guard (s := 60) rfl rfl rfl
        · intro hg; apply opT_of; (refine r_field_pp rfl rfl rfl rfl rfl (by decide) ?_); refine r_nil ?_; exact rfl
        · exact rfl
        · exact rfl
        apply r_guard (s := 60) rfl rfl rfl
        · intro hg; apply opT_strip (s := 61) rfl (by (rw [hg]; rfl)); apply opT_of; (refine r_load_pp rfl rfl rfl rfl ?_); refine r_nil ?_; exact rfl
        · exact rfl
        · exact rfl
        apply r_guard (s := 60) rfl rfl rfl
        · intro hg; apply opT_of; (refine mvI rfl ?_); refine r_nil ?_; exact rfl
        · exact rfl
        · exact rfl
        apply r_guard (s := 60) rfl rfl rfl
        · intro hg; apply opT_strip (s := 62) rfl (by (rw [hg]; rfl)); apply opT_strip (s := 63) rfl (by (rw [hg]; rfl)); apply opT_of; (refine r_index_slN rfl rfl rfl rfl rfl rfl (by omega) ?_); refine r_nil ?_; exact rfl
        · exact rfl
        · exact rfl
        apply r_guard (s := 60) rfl rfl rfl
        · intro hg; apply opT_strip (s := 64) rfl (by (rw [hg]; rfl)); apply opT_of; (refine r_field_pp rfl rfl rfl rfl rfl (by decide) ?_); refine r_nil ?_; exact rfl
        · exact rfl
        · exact rfl
        apply r_guard (s := 60) rfl rfl rfl
        · intro hg; apply opT_strip (s := 65) rfl (by (rw [hg]; rfl)); apply opT_of; (refine r_field_pp rfl rfl rfl rfl rfl (by decide) ?_); refine r_nil ?_; exact rfl
        · exact rfl
        · exact rfl
        apply r_guard (s := 60) rfl rfl rfl
        · intro hg; apply opT_strip (s := 66) rfl (by (rw [hg]; rfl)); apply opT_of; (refine r_load_pp rfl rfl rfl rfl ?_); refine r_nil ?_; exact rfl
        · exact rfl
        · exact rfl
        apply r_guard (s := 60) rfl rfl rfl
        · intro hg; apply opT_of; (refine r_field_pp rfl rfl rfl rfl rfl (by decide) ?_); refine r_nil ?_; exact rfl
        · exact rfl
        · exact rfl
        apply r_guard (s := 60) rfl rfl rfl
        · intro hg; apply opT_strip (s := 68) rfl (by (rw [hg]; rfl)); apply opT_of; (refine r_load_pp rfl rfl rfl rfl ?_); refine r_nil ?_; exact rfl
        · exact rfl
        · exact rfl
        apply r_guard (s := 60) rfl rfl rfl
        · intro hg; apply opT_of; (refine mvI rfl ?_); refine r_nil ?_; exact rfl
        · exact rfl
        · exact rfl
        apply r_guard (s := 60) rfl rfl rfl
        · intro hg; apply opT_strip (s := 69) rfl (by (rw [hg]; rfl)); apply opT_strip (s := 70) rfl (by (rw [hg]; rfl)); apply opT_of; (refine r_index_slN rfl rfl rfl rfl rfl rfl (by omega) ?_); refine r_nil ?_; exact rfl
        · exact rfl
        · exact rfl
        apply r_guard (s := 60) rfl rfl rfl
        · intro hg; apply opT_strip (s := 71) rfl (by (rw [hg]; rfl)); apply opT_of; (refine r_field_pp rfl rfl rfl rfl rfl (by decide) ?_); refine r_nil ?_; exact rfl
        · exact rfl
        · exact rfl
        apply r_guard (s := 60) rfl rfl rfl
        · intro hg; apply opT_strip (s := 72) rfl (by (rw [hg]; rfl)); apply opT_of; (refine r_field_pp rfl rfl rfl rfl rfl (by decide) ?_); refine r_nil ?_; exact rfl
        · exact rfl
        · exact rfl
        apply r_guard (s := 60) rfl rfl rfl
        · intro hg; apply opT_strip (s := 73) rfl (by (rw [hg]; rfl)); apply opT_of; (refine r_load_pp rfl rfl rfl rfl ?_); refine r_nil ?_; exact rfl
        · exact rfl
        · exact rfl
        apply r_guard (s := 60) rfl rfl rfl
        · intro hg; apply opT_strip (s := 67) rfl (by (rw [hg]; rfl)); apply opT_strip (s := 74) rfl (by (rw [hg]; rfl)); apply opT_of; (refine r_bin rfl rfl rfl ?_); refine r_nil ?_; exact rfl
        · exact rfl
        · exact rfl
        refine r_or rfl rfl ?_
        refine asB rfl ?_
        refine r_nil ?_
        refine ⟨by kernel_rfl, ?_⟩
        refine i_block ?_
        refine i_then ?_
        refine t_region ?_
        refine mvI rfl ?_
        refine r_add rfl rfl (by omega) (by omega) ?_
        refine asI rfl ?_
        refine r_nil ?_
        refine i_round (⟨k.1 + 1, by omega⟩) ?_ (by show y.bins.length - (k.1 + 1) < y.bins.length - k.1; omega)
        (refine Ent.mk' ?_ ?_ <;> (repeat' (first | exact allSub_zero | exact allTags_nil | refine allSub_succ' ?_ (Ty.sub_any _) | refine allSub_succ' ?_ (Ty.sub_refl _) | refine allSub_succ' ?_ ?_)))
        all_goals skip
        all_goals first | exact Ty.sub_bool ((Bool.or_assoc _ _ _).trans (anyUp_succ (p := spanB) (by omega))) | exact Ty.sub_bool (anyUp_succ (p := ordB) (by omega))
      ·
        refine t_exit ?_
        refine i_then_exit ?_
        refine i_then_exit ?_
        refine i_block_exit rfl ?_
        refine i_then ?_
        refine t_seq ?_
        refine t_seq ?_
        refine t_region ?_
        refine asI rfl ?_
        refine r_nil ?_
        refine i_then ?_
        refine t_block ?_
        refine t_loop (fun (m : {k : Nat // k ≤ y.moves.length}) => live [(1, Ty.pp (yardTys y)), (3, Ty.bool (y.bins.any spanB || anyUp spanM y.moves m.1)), (4, Ty.bool (anyUp (notM y) y.moves m.1)), (5, Ty.bool (anyUp twoM y.moves m.1)), (6, Ty.bool (y.bins.any ordB || anyUp ordM y.moves m.1)), (8, Ty.int .i64 (m.1 : Nat))] []) (fun m => y.moves.length - m.1) (⟨0, by omega⟩) ?_ fun m => ?_
        · (refine Ent.mk' ?_ ?_ <;> (repeat' (first | exact allSub_zero | exact allTags_nil | refine allSub_succ' ?_ (Ty.sub_any _) | refine allSub_succ' ?_ (Ty.sub_refl _) | refine allSub_succ' ?_ ?_)))
          all_goals exact Ty.sub_bool ((anyUp_all hc2).trans (Bool.or_false _).symm)
        ·
          have hm := m.2
          refine t_seq ?_
          refine t_seq ?_
          refine t_region ?_
          refine mvI rfl ?_
          refine r_field_pp rfl rfl rfl rfl rfl (by decide) ?_
          refine r_load_pp rfl rfl rfl rfl ?_
          refine r_len rfl rfl rfl ?_
          refine r_bin rfl rfl rfl ?_
          refine r_nil ?_
          refine i_then ?_
          refine t_cond_dec rfl (fun hc3 => ?_) (fun hc3 => ?_)
          ·
            refine t_skip ?_
            refine i_then ?_
            refine t_seq ?_
            refine t_block ?_
            refine t_seq ?_
            refine t_region ?_
            refine r_field_pp rfl rfl rfl rfl rfl (by decide) ?_
            refine r_load_pp rfl rfl rfl rfl ?_
            refine mvI rfl ?_
            refine r_index_slN rfl rfl rfl rfl rfl rfl (by omega) ?_
            refine r_load_ppN rfl rfl rfl (by exact Nat.le_of_ble_eq_true rfl) ?_
            refine r_alloc rfl (by exact List.cons_ne_nil _ _) rfl ?_
            refine r_storeN rfl rfl (by decide) rfl rfl rfl rfl rfl rfl ?_
            refine r_nil ?_
            refine i_then ?_
            refine t_seq ?_
            refine t_region ?_
            refine mvB rfl ?_
            refine mvB rfl ?_
            apply r_guard (s := 90) rfl rfl rfl
            · intro hg; apply opT_of; (refine r_field_ptr rfl rfl rfl rfl rfl (by decide) ?_); refine r_nil ?_; exact rfl
            · exact rfl
            · exact rfl
            apply r_guard (s := 90) rfl rfl rfl
            · intro hg; apply opT_strip (s := 91) rfl (by (rw [hg]; rfl)); apply opT_of; (refine r_load_ptrN rfl rfl (by decide) rfl rfl (by exact Nat.le_of_ble_eq_true rfl) ?_); refine r_nil ?_; exact rfl
            · exact rfl
            · exact rfl
            apply r_guard (s := 90) rfl rfl rfl
            · intro hg; apply opT_strip (s := 92) rfl (by (rw [hg]; rfl)); apply opT_of; (refine r_call (c_wideS _) rfl rfl rfl rfl rfl ?_); refine r_nil ?_; exact rfl
            · exact rfl
            · exact rfl
            refine r_or rfl rfl ?_
            refine asB rfl ?_
            refine r_nil ?_
            refine i_then ?_
            refine t_seq ?_
            refine t_region ?_
            refine mvB rfl ?_
            refine mvB rfl ?_
            apply r_guard (s := 96) rfl rfl rfl
            · intro hg; apply opT_of; (refine r_field_ptr rfl rfl rfl rfl rfl (by decide) ?_); refine r_nil ?_; exact rfl
            · exact rfl
            · exact rfl
            apply r_guard (s := 96) rfl rfl rfl
            · intro hg; apply opT_strip (s := 97) rfl (by (rw [hg]; rfl)); apply opT_of; (refine r_load_ptr rfl rfl (by decide) rfl rfl rfl ?_); refine r_nil ?_; exact rfl
            · exact rfl
            · exact rfl
            apply r_guard (s := 96) rfl rfl rfl
            · intro hg; apply opT_of; (refine r_field_pp rfl rfl rfl rfl rfl (by decide) ?_); refine r_nil ?_; exact rfl
            · exact rfl
            · exact rfl
            apply r_guard (s := 96) rfl rfl rfl
            · intro hg; apply opT_strip (s := 99) rfl (by (rw [hg]; rfl)); apply opT_of; (refine r_load_pp rfl rfl rfl rfl ?_); refine r_nil ?_; exact rfl
            · exact rfl
            · exact rfl
            apply r_guard (s := 96) rfl rfl rfl
            · intro hg; apply opT_strip (s := 100) rfl (by (rw [hg]; rfl)); apply opT_of; (refine r_sub rfl rfl (by omega) (by omega) ?_); refine r_nil ?_; exact rfl
            · exact rfl
            · exact rfl
            apply r_guard (s := 96) rfl rfl rfl
            · intro hg; apply opT_strip (s := 98) rfl (by (rw [hg]; rfl)); apply opT_strip (s := 101) rfl (by (rw [hg]; rfl)); apply opT_of; (refine r_call (c_off _ _ _) rfl rfl rfl rfl rfl ?_); refine r_nil ?_; exact rfl
            · exact rfl
            · exact rfl
            refine r_or rfl rfl ?_
            refine mvB rfl ?_
            apply r_guard (s := 104) rfl rfl rfl
            · intro hg; apply opT_of; (refine r_field_ptr rfl rfl rfl rfl rfl (by decide) ?_); refine r_nil ?_; exact rfl
            · exact rfl
            · exact rfl
            apply r_guard (s := 104) rfl rfl rfl
            · intro hg; apply opT_strip (s := 105) rfl (by (rw [hg]; rfl)); apply opT_of; (refine r_load_ptr rfl rfl (by decide) rfl rfl rfl ?_); refine r_nil ?_; exact rfl
            · exact rfl
            · exact rfl
            apply r_guard (s := 104) rfl rfl rfl
            · intro hg; apply opT_of; (refine r_field_pp rfl rfl rfl rfl rfl (by decide) ?_); refine r_nil ?_; exact rfl
            · exact rfl
            · exact rfl
            apply r_guard (s := 104) rfl rfl rfl
            · intro hg; apply opT_strip (s := 107) rfl (by (rw [hg]; rfl)); apply opT_of; (refine r_load_pp rfl rfl rfl rfl ?_); refine r_nil ?_; exact rfl
            · exact rfl
            · exact rfl
            apply r_guard (s := 104) rfl rfl rfl
            · intro hg; apply opT_strip (s := 108) rfl (by (rw [hg]; rfl)); apply opT_of; (refine r_len rfl rfl rfl ?_); refine r_nil ?_; exact rfl
            · exact rfl
            · exact rfl
            apply r_guard (s := 104) rfl rfl rfl
            · intro hg; apply opT_strip (s := 109) rfl (by (rw [hg]; rfl)); apply opT_of; (refine r_sub rfl rfl (by omega) (by omega) ?_); refine r_nil ?_; exact rfl
            · exact rfl
            · exact rfl
            apply r_guard (s := 104) rfl rfl rfl
            · intro hg; apply opT_strip (s := 106) rfl (by (rw [hg]; rfl)); apply opT_strip (s := 110) rfl (by (rw [hg]; rfl)); apply opT_of; (refine r_call (c_off _ _ _) rfl rfl rfl rfl rfl ?_); refine r_nil ?_; exact rfl
            · exact rfl
            · exact rfl
            refine r_or rfl rfl ?_
            refine mvB rfl ?_
            apply r_guard (s := 113) rfl rfl rfl
            · intro hg; apply opT_of; (refine r_field_ptr rfl rfl rfl rfl rfl (by decide) ?_); refine r_nil ?_; exact rfl
            · exact rfl
            · exact rfl
            apply r_guard (s := 113) rfl rfl rfl
            · intro hg; apply opT_strip (s := 114) rfl (by (rw [hg]; rfl)); apply opT_of; (refine r_load_ptr rfl rfl (by decide) rfl rfl rfl ?_); refine r_nil ?_; exact rfl
            · exact rfl
            · exact rfl
            apply r_guard (s := 113) rfl rfl rfl
            · intro hg; apply opT_of; (refine r_field_pp rfl rfl rfl rfl rfl (by decide) ?_); refine r_nil ?_; exact rfl
            · exact rfl
            · exact rfl
            apply r_guard (s := 113) rfl rfl rfl
            · intro hg; apply opT_strip (s := 116) rfl (by (rw [hg]; rfl)); apply opT_of; (refine r_load_pp rfl rfl rfl rfl ?_); refine r_nil ?_; exact rfl
            · exact rfl
            · exact rfl
            apply r_guard (s := 113) rfl rfl rfl
            · intro hg; apply opT_strip (s := 117) rfl (by (rw [hg]; rfl)); apply opT_of; (refine r_len rfl rfl rfl ?_); refine r_nil ?_; exact rfl
            · exact rfl
            · exact rfl
            apply r_guard (s := 113) rfl rfl rfl
            · intro hg; apply opT_strip (s := 118) rfl (by (rw [hg]; rfl)); apply opT_of; (refine r_sub rfl rfl (by omega) (by omega) ?_); refine r_nil ?_; exact rfl
            · exact rfl
            · exact rfl
            apply r_guard (s := 113) rfl rfl rfl
            · intro hg; apply opT_strip (s := 115) rfl (by (rw [hg]; rfl)); apply opT_strip (s := 119) rfl (by (rw [hg]; rfl)); apply opT_of; (refine r_call (c_off _ _ _) rfl rfl rfl rfl rfl ?_); refine r_nil ?_; exact rfl
            · exact rfl
            · exact rfl
            refine r_or rfl rfl ?_
            refine asB rfl ?_
            refine r_nil ?_
            refine i_then ?_
            refine t_seq ?_
            refine t_region ?_
            refine mvB rfl ?_
            refine mvB rfl ?_
            apply r_guard (s := 123) rfl rfl rfl
            · intro hg; apply opT_of; (refine r_field_ptr rfl rfl rfl rfl rfl (by decide) ?_); refine r_nil ?_; exact rfl
            · exact rfl
            · exact rfl
            apply r_guard (s := 123) rfl rfl rfl
            · intro hg; apply opT_strip (s := 124) rfl (by (rw [hg]; rfl)); apply opT_of; (refine r_load_ptr rfl rfl (by decide) rfl rfl rfl ?_); refine r_nil ?_; exact rfl
            · exact rfl
            · exact rfl
            apply r_guard (s := 123) rfl rfl rfl
            · intro hg; apply opT_of; (refine r_field_ptr rfl rfl rfl rfl rfl (by decide) ?_); refine r_nil ?_; exact rfl
            · exact rfl
            · exact rfl
            apply r_guard (s := 123) rfl rfl rfl
            · intro hg; apply opT_strip (s := 126) rfl (by (rw [hg]; rfl)); apply opT_of; (refine r_load_ptr rfl rfl (by decide) rfl rfl rfl ?_); refine r_nil ?_; exact rfl
            · exact rfl
            · exact rfl
            apply r_guard (s := 123) rfl rfl rfl
            · intro hg; apply opT_strip (s := 125) rfl (by (rw [hg]; rfl)); apply opT_strip (s := 127) rfl (by (rw [hg]; rfl)); apply opT_of; (refine r_bin rfl rfl rfl ?_); refine r_nil ?_; exact rfl
            · exact rfl
            · exact rfl
            refine r_or rfl rfl ?_
            refine asB rfl ?_
            refine r_nil ?_
            refine i_then ?_
            refine t_region ?_
            refine mvB rfl ?_
            refine mvB rfl ?_
            apply r_guard (s := 131) rfl rfl rfl
            · intro hg; apply opT_of; (refine r_field_ptr rfl rfl rfl rfl rfl (by decide) ?_); refine r_nil ?_; exact rfl
            · exact rfl
            · exact rfl
            apply r_guard (s := 131) rfl rfl rfl
            · intro hg; apply opT_strip (s := 132) rfl (by (rw [hg]; rfl)); apply opT_of; (refine r_field_ptr rfl rfl rfl rfl rfl (by decide) ?_); refine r_nil ?_; exact rfl
            · exact rfl
            · exact rfl
            apply r_guard (s := 131) rfl rfl rfl
            · intro hg; apply opT_strip (s := 133) rfl (by (rw [hg]; rfl)); apply opT_of; (refine r_load_ptr rfl rfl (by decide) rfl rfl rfl ?_); refine r_nil ?_; exact rfl
            · exact rfl
            · exact rfl
            apply r_guard (s := 131) rfl rfl rfl
            · intro hg; apply opT_of; (refine r_field_ptr rfl rfl rfl rfl rfl (by decide) ?_); refine r_nil ?_; exact rfl
            · exact rfl
            · exact rfl
            apply r_guard (s := 131) rfl rfl rfl
            · intro hg; apply opT_strip (s := 135) rfl (by (rw [hg]; rfl)); apply opT_of; (refine r_field_ptr rfl rfl rfl rfl rfl (by decide) ?_); refine r_nil ?_; exact rfl
            · exact rfl
            · exact rfl
            apply r_guard (s := 131) rfl rfl rfl
            · intro hg; apply opT_strip (s := 136) rfl (by (rw [hg]; rfl)); apply opT_of; (refine r_load_ptr rfl rfl (by decide) rfl rfl rfl ?_); refine r_nil ?_; exact rfl
            · exact rfl
            · exact rfl
            apply r_guard (s := 131) rfl rfl rfl
            · intro hg; apply opT_strip (s := 134) rfl (by (rw [hg]; rfl)); apply opT_strip (s := 137) rfl (by (rw [hg]; rfl)); apply opT_of; (refine r_bin rfl rfl rfl ?_); refine r_nil ?_; exact rfl
            · exact rfl
            · exact rfl
            refine r_or rfl rfl ?_
            refine asB rfl ?_
            refine r_nil ?_
            refine i_block ?_
            refine i_then ?_
            refine t_region ?_
            refine mvI rfl ?_
            refine r_add rfl rfl (by omega) (by omega) ?_
            refine asI rfl ?_
            refine r_nil ?_
            refine i_round (⟨m.1 + 1, by omega⟩) ?_ (by show y.moves.length - (m.1 + 1) < y.moves.length - m.1; omega)
            (refine Ent.mk' ?_ ?_ <;> (repeat' (first | exact allSub_zero | exact allTags_nil | refine allSub_succ' ?_ (Ty.sub_any _) | refine allSub_succ' ?_ (Ty.sub_refl _) | refine allSub_succ' ?_ ?_)))
            all_goals skip
            all_goals first | exact Ty.sub_bool ((Bool.or_assoc _ _ _).trans (congrArg (y.bins.any spanB || ·) (anyUp_succ (p := spanM) (by omega)))) | exact Ty.sub_bool ((Bool.or_assoc _ _ _).trans (congrArg (y.bins.any ordB || ·) (anyUp_succ (p := ordM) (by omega)))) | exact Ty.sub_bool ((or3 _ _ _ _).trans (anyUp_succ (p := notM y) (by omega))) | exact Ty.sub_bool (anyUp_succ (p := twoM) (by omega))
          ·
            refine t_exit ?_
            refine i_then_exit ?_
            refine i_then_exit ?_
            refine i_block_exit rfl ?_
            refine i_then ?_
            refine t_seq ?_
            refine t_seq ?_
            refine t_region ?_
            refine asI rfl ?_
            refine r_nil ?_
            refine i_then ?_
            refine t_block ?_
            refine t_loop (fun (n : {k : Nat // k ≤ y.levels.length}) => live [(1, Ty.pp (yardTys y)), (3, Ty.bool ((y.bins.any spanB || y.moves.any spanM) || anyUp spanL y.levels n.1)), (4, Ty.bool (y.moves.any (notM y) || anyUp (notL y) y.levels n.1)), (5, Ty.bool (twR y)), (6, Ty.bool ((y.bins.any ordB || y.moves.any ordM) || anyUp ordL y.levels n.1)), (10, Ty.int .i64 (n.1 : Nat))] []) (fun n => y.levels.length - n.1) (⟨0, by omega⟩) ?_ fun n => ?_
            · (refine Ent.mk' ?_ ?_ <;> (repeat' (first | exact allSub_zero | exact allTags_nil | refine allSub_succ' ?_ (Ty.sub_any _) | refine allSub_succ' ?_ (Ty.sub_refl _) | refine allSub_succ' ?_ ?_)))
              all_goals first | exact Ty.sub_bool ((congrArg (_ || ·) (anyUp_all hc3)).trans (Bool.or_false _).symm) | exact Ty.sub_bool ((anyUp_all hc3).trans (Bool.or_false _).symm) | exact Ty.sub_bool (anyUp_all hc3)
            ·
              have hn := n.2
              refine t_seq ?_
              refine t_seq ?_
              refine t_region ?_
              refine mvI rfl ?_
              refine r_field_pp rfl rfl rfl rfl rfl (by decide) ?_
              refine r_load_pp rfl rfl rfl rfl ?_
              refine r_len rfl rfl rfl ?_
              refine r_bin rfl rfl rfl ?_
              refine r_nil ?_
              refine i_then ?_
              refine t_cond_dec rfl (fun hc4 => ?_) (fun hc4 => ?_)
              ·
                refine t_skip ?_
                refine i_then ?_
                refine t_seq ?_
                refine t_block ?_
                refine t_seq ?_
                refine t_region ?_
                refine r_field_pp rfl rfl rfl rfl rfl (by decide) ?_
                refine r_load_pp rfl rfl rfl rfl ?_
                refine mvI rfl ?_
                refine r_index_slN rfl rfl rfl rfl rfl rfl (by omega) ?_
                refine r_load_ppN rfl rfl rfl (by exact Nat.le_of_ble_eq_true rfl) ?_
                refine r_alloc rfl (by exact List.cons_ne_nil _ _) rfl ?_
                refine r_storeN rfl rfl (by decide) rfl rfl rfl rfl rfl rfl ?_
                refine r_nil ?_
                refine i_then ?_
                refine t_seq ?_
                refine t_region ?_
                refine mvB rfl ?_
                refine mvB rfl ?_
                apply r_guard (s := 153) rfl rfl rfl
                · intro hg; apply opT_of; (refine r_field_ptr rfl rfl rfl rfl rfl (by decide) ?_); refine r_nil ?_; exact rfl
                · exact rfl
                · exact rfl
                apply r_guard (s := 153) rfl rfl rfl
                · intro hg; apply opT_strip (s := 154) rfl (by (rw [hg]; rfl)); apply opT_of; (refine r_load_ptrN rfl rfl (by decide) rfl rfl (by exact Nat.le_of_ble_eq_true rfl) ?_); refine r_nil ?_; exact rfl
                · exact rfl
                · exact rfl
                apply r_guard (s := 153) rfl rfl rfl
                · intro hg; apply opT_strip (s := 155) rfl (by (rw [hg]; rfl)); apply opT_of; (refine r_call (c_wideS _) rfl rfl rfl rfl rfl ?_); refine r_nil ?_; exact rfl
                · exact rfl
                · exact rfl
                refine r_or rfl rfl ?_
                refine asB rfl ?_
                refine r_nil ?_
                refine i_then ?_
                refine t_seq ?_
                refine t_region ?_
                refine mvB rfl ?_
                refine mvB rfl ?_
                apply r_guard (s := 159) rfl rfl rfl
                · intro hg; apply opT_of; (refine r_field_ptr rfl rfl rfl rfl rfl (by decide) ?_); refine r_nil ?_; exact rfl
                · exact rfl
                · exact rfl
                apply r_guard (s := 159) rfl rfl rfl
                · intro hg; apply opT_strip (s := 160) rfl (by (rw [hg]; rfl)); apply opT_of; (refine r_load_ptr rfl rfl (by decide) rfl rfl rfl ?_); refine r_nil ?_; exact rfl
                · exact rfl
                · exact rfl
                apply r_guard (s := 159) rfl rfl rfl
                · intro hg; apply opT_of; (refine r_field_pp rfl rfl rfl rfl rfl (by decide) ?_); refine r_nil ?_; exact rfl
                · exact rfl
                · exact rfl
                apply r_guard (s := 159) rfl rfl rfl
                · intro hg; apply opT_strip (s := 162) rfl (by (rw [hg]; rfl)); apply opT_of; (refine r_load_pp rfl rfl rfl rfl ?_); refine r_nil ?_; exact rfl
                · exact rfl
                · exact rfl
                apply r_guard (s := 159) rfl rfl rfl
                · intro hg; apply opT_strip (s := 161) rfl (by (rw [hg]; rfl)); apply opT_strip (s := 163) rfl (by (rw [hg]; rfl)); apply opT_of; (refine r_call (c_off _ _ _) rfl rfl rfl rfl rfl ?_); refine r_nil ?_; exact rfl
                · exact rfl
                · exact rfl
                refine r_or rfl rfl ?_
                refine mvB rfl ?_
                apply r_guard (s := 166) rfl rfl rfl
                · intro hg; apply opT_of; (refine r_field_ptr rfl rfl rfl rfl rfl (by decide) ?_); refine r_nil ?_; exact rfl
                · exact rfl
                · exact rfl
                apply r_guard (s := 166) rfl rfl rfl
                · intro hg; apply opT_strip (s := 167) rfl (by (rw [hg]; rfl)); apply opT_of; (refine r_load_ptr rfl rfl (by decide) rfl rfl rfl ?_); refine r_nil ?_; exact rfl
                · exact rfl
                · exact rfl
                apply r_guard (s := 166) rfl rfl rfl
                · intro hg; apply opT_of; (refine r_field_pp rfl rfl rfl rfl rfl (by decide) ?_); refine r_nil ?_; exact rfl
                · exact rfl
                · exact rfl
                apply r_guard (s := 166) rfl rfl rfl
                · intro hg; apply opT_strip (s := 169) rfl (by (rw [hg]; rfl)); apply opT_of; (refine r_load_pp rfl rfl rfl rfl ?_); refine r_nil ?_; exact rfl
                · exact rfl
                · exact rfl
                apply r_guard (s := 166) rfl rfl rfl
                · intro hg; apply opT_strip (s := 170) rfl (by (rw [hg]; rfl)); apply opT_of; (refine r_len rfl rfl rfl ?_); refine r_nil ?_; exact rfl
                · exact rfl
                · exact rfl
                apply r_guard (s := 166) rfl rfl rfl
                · intro hg; apply opT_strip (s := 171) rfl (by (rw [hg]; rfl)); apply opT_of; (refine r_sub rfl rfl (by omega) (by omega) ?_); refine r_nil ?_; exact rfl
                · exact rfl
                · exact rfl
                apply r_guard (s := 166) rfl rfl rfl
                · intro hg; apply opT_strip (s := 168) rfl (by (rw [hg]; rfl)); apply opT_strip (s := 172) rfl (by (rw [hg]; rfl)); apply opT_of; (refine r_call (c_off _ _ _) rfl rfl rfl rfl rfl ?_); refine r_nil ?_; exact rfl
                · exact rfl
                · exact rfl
                refine r_or rfl rfl ?_
                refine asB rfl ?_
                refine r_nil ?_
                refine i_then ?_
                refine t_region ?_
                refine mvB rfl ?_
                refine mvB rfl ?_
                apply r_guard (s := 176) rfl rfl rfl
                · intro hg; apply opT_of; (refine r_field_ptr rfl rfl rfl rfl rfl (by decide) ?_); refine r_nil ?_; exact rfl
                · exact rfl
                · exact rfl
                apply r_guard (s := 176) rfl rfl rfl
                · intro hg; apply opT_strip (s := 177) rfl (by (rw [hg]; rfl)); apply opT_of; (refine r_field_ptr rfl rfl rfl rfl rfl (by decide) ?_); refine r_nil ?_; exact rfl
                · exact rfl
                · exact rfl
                apply r_guard (s := 176) rfl rfl rfl
                · intro hg; apply opT_strip (s := 178) rfl (by (rw [hg]; rfl)); apply opT_of; (refine r_load_ptr rfl rfl (by decide) rfl rfl rfl ?_); refine r_nil ?_; exact rfl
                · exact rfl
                · exact rfl
                apply r_guard (s := 176) rfl rfl rfl
                · intro hg; apply opT_of; (refine r_field_ptr rfl rfl rfl rfl rfl (by decide) ?_); refine r_nil ?_; exact rfl
                · exact rfl
                · exact rfl
                apply r_guard (s := 176) rfl rfl rfl
                · intro hg; apply opT_strip (s := 180) rfl (by (rw [hg]; rfl)); apply opT_of; (refine r_field_ptr rfl rfl rfl rfl rfl (by decide) ?_); refine r_nil ?_; exact rfl
                · exact rfl
                · exact rfl
                apply r_guard (s := 176) rfl rfl rfl
                · intro hg; apply opT_strip (s := 181) rfl (by (rw [hg]; rfl)); apply opT_of; (refine r_load_ptr rfl rfl (by decide) rfl rfl rfl ?_); refine r_nil ?_; exact rfl
                · exact rfl
                · exact rfl
                apply r_guard (s := 176) rfl rfl rfl
                · intro hg; apply opT_strip (s := 179) rfl (by (rw [hg]; rfl)); apply opT_strip (s := 182) rfl (by (rw [hg]; rfl)); apply opT_of; (refine r_bin rfl rfl rfl ?_); refine r_nil ?_; exact rfl
                · exact rfl
                · exact rfl
                refine r_or rfl rfl ?_
                refine asB rfl ?_
                refine r_nil ?_
                refine i_block ?_
                refine i_then ?_
                refine t_region ?_
                refine mvI rfl ?_
                refine r_add rfl rfl (by omega) (by omega) ?_
                refine asI rfl ?_
                refine r_nil ?_
                refine i_round (⟨n.1 + 1, by omega⟩) ?_ (by show y.levels.length - (n.1 + 1) < y.levels.length - n.1; omega)
                (refine Ent.mk' ?_ ?_ <;> (repeat' (first | exact allSub_zero | exact allTags_nil | refine allSub_succ' ?_ (Ty.sub_any _) | refine allSub_succ' ?_ (Ty.sub_refl _) | refine allSub_succ' ?_ ?_)))
                all_goals skip
                all_goals first | exact Ty.sub_bool ((Bool.or_assoc _ _ _).trans (congrArg ((y.bins.any spanB || y.moves.any spanM) || ·) (anyUp_succ (p := spanL) (by omega)))) | exact Ty.sub_bool ((Bool.or_assoc _ _ _).trans (congrArg ((y.bins.any ordB || y.moves.any ordM) || ·) (anyUp_succ (p := ordL) (by omega)))) | exact Ty.sub_bool ((or3' _ _ _ _).trans (congrArg (y.moves.any (notM y) || ·) (anyUp_succ (p := notL y) (by omega))))
              ·
                refine t_exit ?_
                refine i_then_exit ?_
                refine i_then_exit ?_
                refine i_block_exit rfl ?_
                refine i_then ?_
                refine t_seq ?_
                refine t_seq ?_
                refine t_region ?_
                refine mvB rfl ?_
                refine r_nil ?_
                refine i_then ?_
                refine t_cond rfl (fun hc5 => ?_) (fun hc5 => ?_)
                ·
                  refine t_seq ?_
                  refine t_region ?_
                  refine asI rfl ?_
                  refine r_nil ?_
                  refine i_then ?_
                  refine t_ret ?_
                  refine i_then_ret ?_
                  refine i_rp1 rfl rfl ?_
                  all_goals skip
                  exact ret_eq rfl rfl (congrArg (Ty.int .i64) (ck_2 hc1 hc5 (congrArg (_ || ·) (anyUp_all hc4))))
                ·
                  refine t_skip ?_
                  refine i_then ?_
                  refine t_seq ?_
                  refine t_seq ?_
                  refine t_region ?_
                  refine mvB rfl ?_
                  refine r_nil ?_
                  refine i_then ?_
                  refine t_cond rfl (fun hc6 => ?_) (fun hc6 => ?_)
                  ·
                    refine t_seq ?_
                    refine t_region ?_
                    refine asI rfl ?_
                    refine r_nil ?_
                    refine i_then ?_
                    refine t_ret ?_
                    refine i_then_ret ?_
                    refine i_rp1 rfl rfl ?_
                    all_goals skip
                    exact ret_eq rfl rfl (congrArg (Ty.int .i64) (ck_3 hc1 hc5 (congrArg (_ || ·) (anyUp_all hc4)) hc6 (congrArg (_ || ·) (anyUp_all hc4))))
                  ·
                    refine t_skip ?_
                    refine i_then ?_
                    refine t_seq ?_
                    refine t_seq ?_
                    refine t_region ?_
                    refine mvB rfl ?_
                    refine r_nil ?_
                    refine i_then ?_
                    refine t_cond rfl (fun hc7 => ?_) (fun hc7 => ?_)
                    ·
                      refine t_seq ?_
                      refine t_region ?_
                      refine asI rfl ?_
                      refine r_nil ?_
                      refine i_then ?_
                      refine t_ret ?_
                      refine i_then_ret ?_
                      refine i_rp1 rfl rfl ?_
                      all_goals skip
                      exact ret_eq rfl rfl (congrArg (Ty.int .i64) (ck_4 hc1 hc5 (congrArg (_ || ·) (anyUp_all hc4)) hc6 (congrArg (_ || ·) (anyUp_all hc4)) hc7 rfl))
                    ·
                      refine t_skip ?_
                      refine i_then ?_
                      refine t_seq ?_
                      refine t_seq ?_
                      refine t_region ?_
                      refine mvB rfl ?_
                      refine r_nil ?_
                      refine i_then ?_
                      refine t_cond rfl (fun hc8 => ?_) (fun hc8 => ?_)
                      ·
                        refine t_seq ?_
                        refine t_region ?_
                        refine asI rfl ?_
                        refine r_nil ?_
                        refine i_then ?_
                        refine t_ret ?_
                        refine i_then_ret ?_
                        refine i_rp1 rfl rfl ?_
                        all_goals skip
                        exact ret_eq rfl rfl (congrArg (Ty.int .i64) (ck_5 hc1 hc5 (congrArg (_ || ·) (anyUp_all hc4)) hc6 (congrArg (_ || ·) (anyUp_all hc4)) hc7 rfl hc8 (congrArg (_ || ·) (anyUp_all hc4))))
                      ·
                        refine t_skip ?_
                        refine i_then ?_
                        refine t_seq ?_
                        refine t_region ?_
                        refine asI rfl ?_
                        refine r_nil ?_
                        refine i_then ?_
                        refine t_ret ?_
                        refine i_rp1 rfl rfl ?_
                        all_goals skip
                        exact ret_eq rfl rfl (congrArg (Ty.int .i64) (ck_6 hc1 hc5 (congrArg (_ || ·) (anyUp_all hc4)) hc6 (congrArg (_ || ·) (anyUp_all hc4)) hc7 rfl hc8 (congrArg (_ || ·) (anyUp_all hc4))))
end Go.Proofs.YtelbollidfdcjaaGreat

namespace Go.T
open Go Go.RowKit
section
variable {P : Program} {fr : Fr} {ops : Array Oper} {A : As} {rest : List Oper} {K : As → List (As × Fx) → Prop} {d : Nat} {t ty' : TypeId} {p : String} {e : Array Edge} [T : Tab P]
theorem r_buildOwn (tg : Nat) {l : List Ty} {el m : Nat} {parts : Array (Nat × Operand)} {ti te : TI} {ls : List (Nat × List Ty)} (hT : T.tab[ty']? = some ti) (hk : ti.k = .slice el) (hE : T.tab[el]? = some te) (hz : te.zero.length = te.size) (h0 : 0 < te.size) (hm0 : 0 < m) (hle : m * te.size ≤ 16777216) (hml : m ≤ maxLen) (hg : 1 ≤ tg) (hpp : fr.pass.contains tg = false) (hdl : (depsOf l).contains tg = false) (hp : Parts A fr parts.toList ls)
    (hf : fillT (fun i => some (i * te.size, te.size)) ((List.range (m * te.size)).map fun j => Ty.ofVal (te.zero.getD (j % te.size) undef)) ls = some l)
    (h : TOps P fr ops rest (A.after { d := some d, ty := .vs tg m, K := [tg], sets := [(tg, .cells el l)], rs := parts.toList.flatMap fun x => opR x.2 }) fun A' l' => K A' ((A, { d := some d, ty := .vs tg m, K := [tg], sets := [(tg, .cells el l)], rs := parts.toList.flatMap fun x => opR x.2 }) :: l')) : TOps P fr ops (⟨some d, .buildSlice ty' m parts, t, p, e, none⟩ :: rest) A K := by
  refine ⟨_, opT_mem (f := { d := some d, ty := .vs tg m, K := [tg], sets := [(tg, .cells el l)], rs := parts.toList.flatMap fun x => opR x.2 }) rfl rfl (by simp) (by simp) (by simp at hpp ⊢; exact ⟨hg, hpp⟩) fun a w M wf hr _ => ?_, h⟩
  obtain ⟨z, hz1, hz2⟩ := run_zero hE (by intro hn; rw [hn] at hz; simp at hz; omega) w
  obtain ⟨_, D, _, hD, hkd, _⟩ := tab_info hT
  rw [hk] at hkd
  cases D <;> simp only [TK.of, reduceCtorEq, TK.slice.injEq] at hkd
  rename_i el0
  have hel : el0 = el := hkd
  subst hel
  have hzs : z.cells.size = te.size := by rw [← hz, ← hz2]; simp
  have hpos : 0 < m * te.size := Nat.mul_pos hm0 h0
  let zs : Array Value := if m * te.size = 0 then #[] else z.cells
  have hcells : dens w M ((List.range (m * te.size)).map fun j => Ty.ofVal (te.zero.getD (j % te.size) undef)) ((Array.range (m * te.size)).map (zs[· % zs.size]!)).toList := by
    refine dens_of_get (by simp) fun i u hi => ?_
    rw [List.getElem?_map] at hi
    simp only [Option.map_eq_some_iff] at hi
    obtain ⟨j, hj, rfl⟩ := hi
    have hlt : i < m * te.size := by have := (List.getElem?_eq_some_iff.1 hj).1; simpa using this
    rw [List.getElem?_range hlt] at hj
    injection hj with hj
    subst hj
    have hne : ¬ m * te.size = 0 := by omega
    refine ⟨te.zero.getD (i % te.size) undef, ?_, ofVal_den _ _ _⟩
    have hm : i % te.size < z.cells.size := by rw [hzs]; exact Nat.mod_lt _ h0
    have e1 : zs[i % zs.size]! = te.zero.getD (i % te.size) undef := by
      simp only [zs, if_neg hne, hzs]
      rw [getElem!_pos z.cells _ hm, ← hz2, List.getD_eq_getElem?_getD, List.getElem?_eq_getElem (by simpa using hm)]
      simp
    simp [List.getElem?_range hlt, e1]
  obtain ⟨cs', h1, h2⟩ := fill_dens hr hp (place := fun i => some (i * te.size, te.size)) (cs := (Array.range (m * te.size)).map (zs[· % zs.size]!)) (fun x hx c hc => List.mem_flatMap.2 ⟨x, hx, hc⟩) hcells hf
  have hparts : (parts.map fun x => (x.1, a.eval x.2)).toList = parts.toList.map fun x => (x.1, a.eval x.2) := by simp
  obtain ⟨h3, h4, h5⟩ := le_alloc wf (.cells cs' el0) tg
  refine ⟨.slice (some ⟨w.heap.size, 0, none⟩) m m, w.alloc (.cells cs' el0), ?_, _, h3, h4, .inr ⟨w.heap.size, m, h5, rfl, Nat.le_refl _, hml⟩, ?_⟩
  · have hbig' : ¬ (2 ^ 24 < m * te.size) := by omega
    simp only [execOp, Instr.buildSlice, Sem.run_bind, run_underlying hD, Result.andThen_ok, run_sizeOf' hE]
    simp only [hbig', gt_iff_lt, if_false]
    have hn : ¬ m * te.size = 0 := by omega
    have : zs = z.cells := if_neg hn
    rw [this] at h1
    simp only [if_neg hn, Sem.run_pure, Sem.run_bind, Result.andThen_ok, hz1]
    simp only [hparts, h1]
    simp [newRow, newObj, Sem.run]
  · intro x hx
    simp only [List.mem_singleton] at hx
    subst hx
    refine ⟨w.heap.size, cs', h5, alloc_new _ _, ?_⟩
    refine dens_mono h4 (fun u hu hk => ?_) (fun u _ hs => by cases hs) h2
    simp only [List.mem_singleton] at hk
    subst hk
    rw [List.contains_eq_mem, decide_eq_false_iff_not] at hdl
    exact hdl hu
end
end Go.T

namespace Go.T
open Go Go.RowKit
section
variable {P : Program} {fr : Fr} {ops : Array Oper} {A : As} {rest : List Oper} {K : As → List (As × Fx) → Prop} {d : Nat} {t ty' : TypeId} {p : String} {e : Array Edge} [T : Tab P]
theorem r_makeRc {α : Type} {E : El α} {x0 : α} {x y : Operand} {k k' : IntKind} {n m : Int} {el : Nat} {ti te : TI} (hx : A.op fr x = .int k n) (hy : A.op fr y = .int k' m) (hT : T.tab[ty']? = some ti) (hk : ti.k = .slice el) (hE : T.tab[el]? = some te) (hs : te.size = E.size) (hz : te.zero.map Ty.ofVal = E.tys x0) (hzp : 0 < te.size) (hp : fr.pass.contains (d + 1) = false)
    (hn : 0 ≤ n) (hnm : n ≤ m) (hlen : (te.bytes : Int) * m ≤ 281474976710656) (hlen' : m ≤ 9223372036854775807)
    (h : TOps P fr ops rest (A.after { d := some d, ty := .rc (d + 1) n.toNat (some m.toNat), K := [d + 1], sets := [(d + 1, .rcv E el (List.replicate n.toNat x0) (some m.toNat))], rs := opR x ++ opR y }) fun A' l' => K A' ((A, { d := some d, ty := .rc (d + 1) n.toNat (some m.toNat), K := [d + 1], sets := [(d + 1, .rcv E el (List.replicate n.toNat x0) (some m.toNat))], rs := opR x ++ opR y }) :: l')) :
    TOps P fr ops (⟨some d, .makeSlice ty' x y, t, p, e, none⟩ :: rest) A K := by
  refine ⟨_, opT_mem rfl rfl (by simp) (by simp) (by simp at hp ⊢; exact hp) fun a w M wf hr _ => ?_, h⟩
  obtain ⟨hdx, hdy⟩ := op2 hr
  rw [hx] at hdx; rw [hy] at hdy
  have ex : a.eval x = .int k n := hdx
  have ey : a.eval y = .int k' m := hdy
  obtain ⟨_, D, _, hD, hkd, _⟩ := tab_info hT
  rw [hk] at hkd
  cases D <;> simp only [TK.of, reduceCtorEq, TK.slice.injEq] at hkd
  rename_i el0
  have hel : el0 = el := hkd
  subst hel
  obtain ⟨i, _, hi, _, _, hsz, hby, hze⟩ := tab_info hE
  have hzl : te.zero.length = te.size := by rw [← List.length_map (f := Ty.ofVal), hz, E.len, hs]
  obtain ⟨z, hiz⟩ : ∃ z, i.zero = some z := by
    cases hiz : i.zero with
    | none => rw [hiz] at hze; rw [← hze] at hzl; simp at hzl; omega
    | some z => exact ⟨z, rfl⟩
  rw [hiz] at hze
  have hrun := run_make (P := P) w ty' _ i z hD hi hiz k k' n m hn hnm (by rw [hby]; exact hlen) hlen'
  obtain ⟨h1, h2, h3⟩ := le_alloc wf (.cells (madeCells z.cells (m.toNat * i.size)) el0) (d + 1)
  refine ⟨_, _, by simp [execOp, ex, ey, hrun], _, h1, h2, ⟨_, h3, rfl, by omega, by simp only [maxLen]; omega⟩, ?_⟩
  intro x hx
  simp only [List.mem_singleton] at hx
  subst hx
  have hnm' : n.toNat * te.size ≤ m.toNat * te.size := Nat.mul_le_mul_right _ (by omega)
  refine ⟨w.heap.size, _, h3, alloc_new _ _, by simp [madeCells, hsz, hs], ?_⟩
  rw [flat_len, List.length_replicate, ← hs]
  have hzs : z.cells.size = te.size := by rw [← hzl, ← hze]; simp
  refine dens_of_get (by rw [flat_len, List.length_replicate, ← hs, List.length_take, Array.length_toList]; simp only [madeCells, Array.size_map, Array.size_range, hsz]; first | exact (Nat.min_eq_left hnm').symm | exact Nat.min_eq_left hnm') fun j ty hj => ?_
  have hjl : j < n.toNat * te.size := by
    have := (List.getElem?_eq_some_iff.1 hj).1
    rw [flat_len, List.length_replicate, ← hs] at this; exact this
  have hq : j / te.size < n.toNat := Nat.div_lt_of_lt_mul (by rw [Nat.mul_comm]; exact hjl)
  have hm : j % te.size < te.size := Nat.mod_lt _ hzp
  have hget := flat_get E (List.replicate n.toNat x0) (j / te.size) (j % te.size) (by simpa using hq) (by rw [← hs]; exact hm)
  have hdecomp : j / te.size * E.size + j % te.size = j := by rw [← hs, Nat.mul_comm]; exact Nat.div_add_mod j te.size
  rw [hdecomp, hj] at hget
  simp only [List.getElem?_replicate, hq, if_true, Option.bind_some] at hget
  rw [← hz, List.getElem?_map] at hget
  obtain ⟨u, hu, hty⟩ := Option.map_eq_some_iff.1 hget.symm
  refine ⟨u, ?_, hty ▸ ofVal_den _ _ _⟩
  rw [List.getElem?_take, if_pos hjl]
  have hu' : z.cells[j % z.cells.size]? = some u := by rw [hzs]; rw [← hze] at hu; simpa using hu
  simp only [madeCells, Array.toList_map, List.getElem?_map, Array.toList_range, hsz]
  rw [List.getElem?_range (by omega)]
  simp only [Option.map_some]
  rw [getElem!_def, hu']
theorem r_copyRc {α : Type} {E : El α} {zs ys : List α} {x y : Operand} {tg n c0 el st st' Tb : Nat} {ti te : TI} (hx : A.op fr x = .rc tg n (some c0)) (hy : A.op fr y = .sl E ys) (hc : A.tag tg = some (.rcv E Tb zs (some c0))) (h1 : Tag1 tg) (hT : T.tab[st]? = some ti) (hk : ti.k = .slice el) (hE : T.tab[el]? = some te) (hs : te.size = E.size) (hn : zs.length = n) (hle : ys.length ≤ n)
    (h : TOps P fr ops rest (A.after { d := some d, ty := .int .i64 (ys.length : Nat), S := [tg], sets := [(tg, .rcv E Tb (ys ++ zs.drop ys.length) (some c0))], rs := opR x ++ opR y, rt := [tg] }) fun A' l'' => K A' ((A, { d := some d, ty := .int .i64 (ys.length : Nat), S := [tg], sets := [(tg, .rcv E Tb (ys ++ zs.drop ys.length) (some c0))], rs := opR x ++ opR y, rt := [tg] }) :: l'')) :
    TOps P fr ops (⟨some d, .call ⟨.builtin .copy, #[x, y], #[st, st']⟩, t, p, e, none⟩ :: rest) A K := by
  refine ⟨_, opT_mem rfl rfl (by simp) (by simpa using h1.1) (by simp) fun a w M wf hr ht => ?_, h⟩
  obtain ⟨hdx, hdy⟩ := op2 hr
  rw [hx] at hdx; rw [hy] at hdy
  obtain ⟨_, D, _, hD, hkd, _⟩ := tab_info hT
  rw [hk] at hkd
  cases D <;> simp only [TK.of, reduceCtorEq, TK.slice.injEq] at hkd
  subst hkd
  rename_i el
  have hsz := fun w => run_sizeOf' (P := P) hE w
  obtain ⟨ad, c, ey, hc1, hc2, hp⟩ := hdy
  obtain ⟨b, hb, ex, hn0, hm0⟩ := hdx
  obtain ⟨b2, cs, hb2, hh, hsz0, hd⟩ : dRcv E Tb zs (some c0) w M tg := ht _ (tag_mem hc) (by simp)
  have hmin : Nat.min ys.length n = ys.length := Nat.min_eq_left hle
  by_cases hys : ys = []
  · subst hys
    have hl : ∀ (q : Addr), (loadCells q 0).run P w = .ok #[] w := fun q => by simpa using run_loadCells_list (P := P) w q [] (by simp)
    have hrun : (Builtin.copy_ #[st, st'] t #[a.eval x, a.eval y]).run P w = .ok (goInt 0) w := by
      rw [ey, ex]; cases ad <;> simp [Builtin.copy_, run_underlying hD, Builtin.lenOf, Builtin.firstCells, hsz, storeCells, hl]
    refine ⟨goInt 0, w, by simp [execOp, resolve, invoke, builtin, hrun], M, wf, (Le.refl _ _ w M), rfl, ?_⟩
    intro z' hz'
    simp only [List.mem_singleton] at hz'
    subst hz'
    have hv : (Cont.rcv E Tb zs (some c0)).den w M tg := ⟨b2, cs, hb2, hh, hsz0, hd⟩
    simpa using hv
  · have hpos : 0 < ys.length := List.length_pos_iff.2 hys
    obtain ⟨b', off, rfl, hp'⟩ := hp hpos
    obtain ⟨news, hn1, hn2, hn3⟩ := pub_cells hp' _ (Nat.le_refl _)
    rw [List.take_length] at hn2
    rw [flat_len] at hn1
    obtain ⟨u, rfl⟩ : ∃ u, tg = u + 1 := ⟨tg - 1, by omega⟩
    have := wf.inj b b2 u (by omega) hb hb2
    subst this
    have hlen := dens_len hd
    have hm : ys.length * E.size ≤ zs.length * E.size := Nat.mul_le_mul_right _ (by omega)
    have hoff : ys.length * E.size ≤ cs.size := by
      rw [flat_len, List.length_take] at hlen
      simp at hlen; omega
    have hst := run_storeCells_at (P := P) b 0 Tb news 0 cs w hh (by omega) (dens_ones hn2 (flat_ones E ys))
    rw [setRow_set _ hh] at hst
    obtain ⟨h1', h2', h3'⟩ := store_le (cs' := (cs.toList.take (0 + 0) ++ news ++ cs.toList.drop (0 + 0 + news.length)).toArray) (Tb := Tb) wf hb _ rfl
    have hld : (loadCells ⟨b', off, none⟩ (ys.length * E.size)).run P w = .ok news.toArray w := by
      rw [← hn1]
      exact run_loadCells_list (P := P) w _ news (fun j v hj => by rw [Addr.add_lit]; exact hn3 j v hj)
    have hrun : (Builtin.copy_ #[st, st'] t #[a.eval x, a.eval y]).run P w = .ok (goInt ys.length) { w with heap := w.heap.setIfInBounds b (.cells (cs.toList.take (0 + 0) ++ news ++ cs.toList.drop (0 + 0 + news.length)).toArray Tb (0, 0)) } := by
      rw [ex, ey]
      simp only [Builtin.copy_, run_underlying hD, Builtin.lenOf, Builtin.firstCells, hsz, hs, hmin, hld, Sem.run_bind, Sem.run_pure, Result.andThen_ok]
      simp [run_underlying hD, hsz, hs, hmin, hld]
      simp at hst
      rw [hst]
      simp
    refine ⟨goInt ys.length, _, by simp [execOp, resolve, invoke, builtin, hrun], M, h1', h2', rfl, ?_⟩
    intro z' hz'
    simp only [List.mem_singleton] at hz'
    subst hz'
    refine ⟨b, _, hb, h3', ?_, ?_⟩
    · rw [← hsz0]
      simp only [Nat.add_zero, List.take_zero, List.nil_append, Nat.zero_add, List.size_toArray, List.length_append, List.length_drop, hn1, Array.length_toList]
      omega
    have hq := vec_put (xs := zs) (ys := ys) (vs := news) (i := 0) hd hn2 (by omega)
    rw [List.take_zero, List.nil_append, Nat.zero_add, Nat.zero_mul] at hq
    exact dens_mono h2' (by intro _ _ h; cases h) (by rw [E.flat_cdeps]; intro _ h; cases h) (by simpa using hq)
end
end Go.T

namespace Go.Proofs.YtelbollidfdcjaaGreat
open Go Go.T
set_option maxHeartbeats 6000000
def ownT (s t u : Nat) (y : Yard) : List Ty := [Ty.int .i64 y.days, Ty.vs s y.bins.length, Ty.vs t y.moves.length, Ty.vs u y.levels.length]
abbrev conts (s t u : Nat) (y : Yard) : List (Nat × Cont) := [(s, Cont.vec BinE 39 y.bins), (t, Cont.vec MoveE 41 y.moves), (u, Cont.vec LevelE 102 y.levels)]
def yz : Yard := ⟨0, [], [], []⟩
def okY (y : Yard) : Yard := if checkY y = 0 then y else yz
theorem ok_yes {y : Yard} (h : checkY y = 0) : y = okY y := (if_pos h).symm
theorem ok_no {y : Yard} (h : ¬ checkY y = 0) : yz = okY y := (if_neg h).symm
theorem own_z {x : Yard} (h : x = yz) : RetG [21, 22, 23] (Ty.agg [Ty.int .i64 0, Ty.ex (.slice none 0 0), Ty.ex (.slice none 0 0), Ty.ex (.slice none 0 0)]) (Ty.agg (ownT 21 22 23 x)) := by
  subst h; exact rg_cv (cv_agg (cv_cons (cv_cons (cv_cons (cv_cons cv_nil cv_nilvs) cv_nilvs) cv_nilvs) (cv_pub rfl rfl)))
theorem own_ok {x y : Yard} (h : x = y) : RetG [21, 22, 23] (Ty.agg (ownT 21 22 23 x)) (Ty.agg (ownT 21 22 23 y)) := by
  subst h; exact rg_cv (cv_agg (cv_cons (cv_cons (cv_cons (cv_cons cv_nil (cv_vs (by decide))) (cv_vs (by decide))) (cv_vs (by decide))) (cv_pub rfl rfl)))
def addL (y : Yard) (l : Level) : Yard := { y with levels := y.levels ++ [l] }
def measE (y : Yard) (l : Level) : Int := if checkY y = 0 then (if (y.levels.length : Int) = 8 then 9 else checkY (addL y l)) else checkY y
def measY (y : Yard) (l : Level) : Yard := if measE y l = 0 then addL y l else yz
theorem addL_small {y : Yard} (h : y.Small) (l : Level) (h2 : y.levels.length ≤ 999 := by omega) : (addL y l).Small := ⟨h.bins, h.moves, by show (y.levels ++ [l]).length ≤ 1000; rw [List.length_append]; show y.levels.length + 1 ≤ 1000; omega⟩
section
variable {y : Yard} {l : Level}
theorem meas_1 (h : ¬ checkY y = 0) : yz = measY y l ∧ checkY y = measE y l := by
  have e : checkY y = measE y l := (if_neg h).symm
  exact ⟨by unfold measY; rw [← e, if_neg h], e⟩
theorem meas_2 (h : checkY y = 0) (h2 : (y.levels.length : Int) = 8) : yz = measY y l ∧ 9 = measE y l := by
  have e : 9 = measE y l := by unfold measE; rw [if_pos h, if_pos h2]
  exact ⟨by unfold measY; rw [← e, if_neg (by decide)], e⟩
theorem meas_3 (h : checkY y = 0) (h2 : ¬ (y.levels.length : Int) = 8) : okY (addL y l) = measY y l ∧ checkY (addL y l) = measE y l := by
  have e : checkY (addL y l) = measE y l := by unfold measE; rw [if_pos h, if_neg h2]
  exact ⟨by unfold measY okY; rw [← e], e⟩
end
def addM (y : Yard) (m : Move) : Yard := { y with moves := y.moves ++ [m] }
def carrE (y : Yard) (m : Move) : Int := if checkY y = 0 then (if (y.moves.length : Int) = 10 then 9 else checkY (addM y m)) else checkY y
def carrY (y : Yard) (m : Move) : Yard := if carrE y m = 0 then addM y m else yz
theorem addM_small {y : Yard} (h : y.Small) (m : Move) (h2 : y.moves.length ≤ 999 := by omega) : (addM y m).Small := ⟨h.bins, by show (y.moves ++ [m]).length ≤ 1000; rw [List.length_append]; show y.moves.length + 1 ≤ 1000; omega, h.levels⟩
section
variable {y : Yard} {m : Move}
theorem carr_1 (h : ¬ checkY y = 0) : yz = carrY y m ∧ checkY y = carrE y m := by
  have e : checkY y = carrE y m := (if_neg h).symm
  exact ⟨by unfold carrY; rw [← e, if_neg h], e⟩
theorem carr_2 (h : checkY y = 0) (h2 : (y.moves.length : Int) = 10) : yz = carrY y m ∧ 9 = carrE y m := by
  have e : 9 = carrE y m := by unfold carrE; rw [if_pos h, if_pos h2]
  exact ⟨by unfold carrY; rw [← e, if_neg (by decide)], e⟩
theorem carr_3 (h : checkY y = 0) (h2 : ¬ (y.moves.length : Int) = 10) : okY (addM y m) = carrY y m ∧ checkY (addM y m) = carrE y m := by
  have e : checkY (addM y m) = carrE y m := by unfold carrE; rw [if_pos h, if_neg h2]
  exact ⟨by unfold carrY okY; rw [← e], e⟩
end
theorem rep_drop {α : Type} {l : List α} {x : α} : l ++ List.drop l.length (List.replicate ((l.length : Int)).toNat x) = l := by rw [List.drop_of_length_le (by simp), List.append_nil]
theorem und23 : Tryz.prog.underlying 23 = some (.slice 39) := by kernel_rfl
theorem und24 : Tryz.prog.underlying 24 = some (.slice 41) := by kernel_rfl
attribute [local irreducible] checkY okY
attribute [local irreducible] dInt dBool dSl dPp dPtr dAgg dTup dClo dAny dEx dStr dGd dCells dVec dVs dRow dOp nth Tri Into TOps Ctr bodyPost Exit.then Exit.inBlock Code.wp Code.wpIn dWhen dPa dPe dAo dArr dMp dPm dMap dCJ CtrG CtrI OpY keepPost iterPost bodyPostM roundQ
set_option maxRecDepth 100000 in
theorem k_Clone_bin (l : List Bin) (h : l.length ≤ 1000) : CtrG Tryz.prog 174 [] [] [Ty.sl BinE l] [] (Ty.row BinE 39 6 l) := by
  refine fnG_intro Tryz.func174 rfl (by decide) Tryz.ntmps174 (by exact Nat.le_of_ble_eq_true rfl) fun w0 M0 => ?_
  refine t_seq ?_
  refine t_region ?_
  refine asX rfl ?_
  refine r_nil ?_
  refine i_then ?_
  refine t_seq ?_
  refine t_seq ?_
  refine t_region ?_
  refine mvS rfl ?_
  refine r_eqnil und23 rfl ?_
  refine r_nil ?_
  refine i_then ?_
  refine t_cond_nb rfl (fun hc1 => ?_) (fun hc1 => ?_)
  ·
    refine t_seq ?_
    refine t_region ?_
    refine asX rfl ?_
    refine r_nil ?_
    refine i_then ?_
    refine t_ret ?_
    refine i_then_ret ?_
    refine g_ret1 [6] rfl rfl (by decide) (by repeat (exact rc_nil)) ?_
    all_goals skip
    all_goals (obtain rfl : l = [] := hc1; exact rg_cv cv_nilrow)
  ·
    refine t_skip ?_
    refine i_then ?_
    refine t_seq ?_
    refine t_region ?_
    refine r_buildRow (E := BinE) rfl rfl rfl rfl ?_
    refine mvS rfl ?_
    refine r_append rfl rfl (by decide) rfl rfl rfl rfl rfl rfl (by decide) (by (simp <;> omega)) (by (simp <;> omega)) ?_
    refine asR rfl ?_
    refine r_nil ?_
    refine i_then ?_
    refine t_ret ?_
    refine g_ret1 [6] rfl rfl (by decide) (by repeat (exact rc_nil)) ?_
    all_goals skip
    all_goals exact rg_cv (cv_row (by decide))
set_option maxRecDepth 100000 in
theorem k_Clone_mov (l : List Move) (h : l.length ≤ 1000) : CtrG Tryz.prog 175 [] [] [Ty.sl MoveE l] [] (Ty.row MoveE 41 6 l) := by
  refine fnG_intro Tryz.func175 rfl (by decide) Tryz.ntmps175 (by exact Nat.le_of_ble_eq_true rfl) fun w0 M0 => ?_
  refine t_seq ?_
  refine t_region ?_
  refine asX rfl ?_
  refine r_nil ?_
  refine i_then ?_
  refine t_seq ?_
  refine t_seq ?_
  refine t_region ?_
  refine mvS rfl ?_
  refine r_eqnil und24 rfl ?_
  refine r_nil ?_
  refine i_then ?_
  refine t_cond_nb rfl (fun hc1 => ?_) (fun hc1 => ?_)
  ·
    refine t_seq ?_
    refine t_region ?_
    refine asX rfl ?_
    refine r_nil ?_
    refine i_then ?_
    refine t_ret ?_
    refine i_then_ret ?_
    refine g_ret1 [6] rfl rfl (by decide) (by repeat (exact rc_nil)) ?_
    all_goals skip
    all_goals (obtain rfl : l = [] := hc1; exact rg_cv cv_nilrow)
  ·
    refine t_skip ?_
    refine i_then ?_
    refine t_seq ?_
    refine t_region ?_
    refine r_buildRow (E := MoveE) rfl rfl rfl rfl ?_
    refine mvS rfl ?_
    refine r_append rfl rfl (by decide) rfl rfl rfl rfl rfl rfl (by decide) (by (simp <;> omega)) (by (simp <;> omega)) ?_
    refine asR rfl ?_
    refine r_nil ?_
    refine i_then ?_
    refine t_ret ?_
    refine g_ret1 [6] rfl rfl (by decide) (by repeat (exact rc_nil)) ?_
    all_goals skip
    all_goals exact rg_cv (cv_row (by decide))
set_option maxRecDepth 100000 in
theorem k_twin (y : Yard) (hs : y.Small) : CtrG Tryz.prog 124 [] [] [yardT y] [] (Ty.agg [Ty.int .i64 y.days, Ty.row BinE 39 21 y.bins, Ty.row MoveE 41 22 y.moves, Ty.row LevelE 102 12 y.levels]) := by
  refine fnG_intro Tryz.func124 rfl (by decide) Tryz.ntmps124 (by exact Nat.le_of_ble_eq_true rfl) fun w0 M0 => ?_
  have hs1 := hs.bins
  have hs2 := hs.moves
  have hs3 := hs.levels
  refine t_seq ?_
  refine t_region ?_
  refine r_box_agg rfl ?_
  refine r_alloc rfl (by exact List.cons_ne_nil _ _) rfl ?_
  refine r_nil ?_
  refine i_then ?_
  refine t_seq ?_
  refine t_region ?_
  refine r_field_pp rfl rfl rfl rfl rfl (by decide) ?_
  refine r_load_pp rfl rfl rfl rfl ?_
  refine r_len rfl rfl rfl ?_
  refine r_field_pp rfl rfl rfl rfl rfl (by decide) ?_
  refine r_load_pp rfl rfl rfl rfl ?_
  refine r_len rfl rfl rfl ?_
  refine r_add rfl rfl (by omega) (by omega) ?_
  refine r_makeRc (E := LevelE) (x0 := ⟨0, 0, ⟨0, 0⟩⟩) rfl rfl rfl rfl rfl rfl rfl (by decide) rfl (by omega) (by omega) (by (dsimp only; omega)) (by omega) ?_
  refine r_assign rfl ?_
  refine r_nil ?_
  refine i_then ?_
  refine t_seq ?_
  refine t_region ?_
  refine r_move rfl ?_
  refine r_field_pp rfl rfl rfl rfl rfl (by decide) ?_
  refine r_load_pp rfl rfl rfl rfl ?_
  refine r_copyRc (E := LevelE) (ys := y.levels) rfl rfl rfl (by decide) rfl rfl rfl rfl (by simp) (by simp) ?_
  refine r_nil ?_
  refine i_then ?_
  refine t_seq ?_
  refine t_asC (tg := 12) rfl (Cont.sub_rcv rep_drop) ?_
  refine t_unownC (s := 3) rfl (by decide) rfl rfl ?_
  refine t_draw mixed rfl ?_
  refine r_field_pp rfl rfl rfl rfl rfl (by decide) ?_
  refine r_load_pp rfl rfl rfl rfl ?_
  refine r_field_pp rfl rfl rfl rfl rfl (by decide) ?_
  refine r_load_pp rfl rfl rfl rfl ?_
  refine r_callG [(21, 6)] [21] [] (k_Clone_bin y.bins (by omega)) rfl rfl (by repeat (first | exact cv_nil | refine cv_cons ?_ ?_ | exact cv_pub rfl rfl)) pre_nil post_nil (cv_row (by exact List.mem_cons_self)) ?_
  refine r_field_pp rfl rfl rfl rfl rfl (by decide) ?_
  refine r_load_pp rfl rfl rfl rfl ?_
  refine r_callG [(22, 6)] [22] [] (k_Clone_mov y.moves (by omega)) rfl rfl (by repeat (first | exact cv_nil | refine cv_cons ?_ ?_ | exact cv_pub rfl rfl)) pre_nil post_nil (cv_row (by exact List.mem_cons_self)) ?_
  refine mvR rfl ?_
  refine r_build rfl rfl (by exact List.cons_ne_nil _ _) rfl (by repeat (first | exact (Parts.nil : Parts _ _ [] _) | (show Parts _ _ ((_, _) :: _) _; apply Parts.one; (· first | exact (rfl : _ = Ty.int _ _) | exact (rfl : _ = Ty.row _ _ _ _)); (· exact rfl)))) (by exact (rfl : _ = some [_, _, _, _])) ?_
  refine r_storeN rfl rfl (by decide) rfl rfl rfl rfl rfl rfl ?_
  refine r_nil ?_
  refine ⟨by kernel_rfl, ?_⟩
  refine i_then ?_
  refine t_ret ?_
  refine g_rcell [21, 22, 12] rfl rfl rfl rfl (by decide) rfl rfl rfl (by decide) (by repeat (exact rc_nil)) ?_
  all_goals skip
  all_goals exact rg_cv (cv_agg (cv_cons (cv_cons (cv_cons (cv_cons cv_nil (cv_row (by decide))) (cv_row (by decide))) (cv_row (by decide))) (cv_pub rfl rfl)))
set_option maxRecDepth 100000 in
theorem k_right (y : Yard) (hs : y.Small) : CtrG Tryz.prog 125 [21, 22, 23] (conts 21 22 23 y) [Ty.agg (ownT 21 22 23 y)] (conts 21 22 23 (okY y)) (Ty.tup [Ty.agg (ownT 21 22 23 (okY y)), Ty.int .i64 (checkY y)]) := by
  refine fnG_intro Tryz.func125 rfl (by decide) Tryz.ntmps125 (by exact Nat.le_of_ble_eq_true rfl) fun w0 M0 => ?_
  refine t_seq ?_
  refine t_region ?_
  refine r_box_agg rfl ?_
  refine r_alloc rfl (by exact List.cons_ne_nil _ _) rfl ?_
  refine asI rfl ?_
  refine r_nil ?_
  refine i_then ?_
  refine t_seq ?_
  refine t_seq ?_
  refine t_region ?_
  refine r_load_ppN rfl rfl rfl (by exact Nat.le_of_ble_eq_true rfl) ?_
  refine r_callLC [21, 22, 23] (c_Check y hs) rfl (lendcs_cons (lendc_agg (lendcs_cons (lendc_of (lend_pub rfl rfl)) (lendcs_cons (lendc_vs rfl rfl (by decide) rfl) (lendcs_cons (lendc_vs rfl rfl (by decide) rfl) (lendcs_cons (lendc_vs rfl rfl (by decide) rfl) lendcs_nil))))) lendcs_nil) (by exact plain_int _ _) ?_
  refine asI rfl ?_
  refine r_nil ?_
  refine i_then ?_
  refine t_seq ?_
  refine t_region ?_
  refine mvI rfl ?_
  refine r_bin rfl rfl rfl ?_
  refine r_nil ?_
  refine i_then ?_
  refine t_cond_ndec rfl (fun hc1 => ?_) (fun hc1 => ?_)
  ·
    refine t_seq ?_
    refine t_vec0 (E := BinE) 39 21 ?_
    refine t_vec0 (E := MoveE) 41 22 ?_
    refine t_vec0 (E := LevelE) 102 23 ?_
    refine t_region ?_
    refine r_build rfl rfl (by exact List.cons_ne_nil _ _) rfl (by repeat (exact (Parts.nil : Parts _ _ [] _))) (by exact (rfl : _ = some [_, _, _, _])) ?_
    refine mvI rfl ?_
    refine r_storeN rfl rfl (by decide) rfl rfl rfl rfl rfl rfl ?_
    refine asI rfl ?_
    refine r_nil ?_
    refine i_then ?_
    refine t_ret ?_
    refine i_then_ret ?_
    refine g_rcell2 [21, 22, 23] rfl rfl rfl rfl rfl (by decide) rfl rfl rfl (by decide) ?_ ?_ ?_
    · exact rc_cons rfl (cc_vec (by decide) (congrArg Yard.bins (ok_no hc1))) (rc_cons rfl (cc_vec (by decide) (congrArg Yard.moves (ok_no hc1))) (rc_cons rfl (cc_vec (by decide) (congrArg Yard.levels (ok_no hc1))) rc_nil))
    all_goals first | exact rg_cv (cv_pub rfl rfl) | skip
    all_goals exact own_z (ok_no hc1).symm
  ·
    refine t_skip ?_
    refine i_then ?_
    refine t_seq ?_
    refine t_region ?_
    refine r_load_ppN rfl rfl rfl (by exact Nat.le_of_ble_eq_true rfl) ?_
    refine r_storeN rfl rfl (by decide) rfl rfl rfl rfl rfl rfl ?_
    refine asI rfl ?_
    refine r_nil ?_
    refine i_then ?_
    refine t_ret ?_
    refine g_rcell2 [21, 22, 23] rfl rfl rfl rfl rfl (by decide) rfl rfl rfl (by decide) ?_ ?_ ?_
    · exact rc_cons rfl (cc_vec (by decide) (congrArg Yard.bins (ok_yes hc1))) (rc_cons rfl (cc_vec (by decide) (congrArg Yard.moves (ok_yes hc1))) (rc_cons rfl (cc_vec (by decide) (congrArg Yard.levels (ok_yes hc1))) rc_nil))
    all_goals skip
    all_goals first | exact own_ok (ok_yes hc1) | exact rg_cv (cv_eq rfl rfl (congrArg (Ty.int .i64) hc1.symm))
set_option maxRecDepth 100000 in
theorem k_Measure (y : Yard) (hs : y.Small) (l : Level) : CtrG Tryz.prog 55 [] [] [yardT y, Ty.agg (LevelE.tys l)] (conts 21 22 23 (measY y l)) (Ty.tup [Ty.agg (ownT 21 22 23 (measY y l)), Ty.int .i64 (measE y l)]) := by
  refine fnG_intro Tryz.func55 rfl (by decide) Tryz.ntmps55 (by exact Nat.le_of_ble_eq_true rfl) fun w0 M0 => ?_
  have hs1 := hs.bins
  have hs2 := hs.moves
  have hs3 := hs.levels
  refine t_seq ?_
  refine t_region ?_
  refine r_box_agg rfl ?_
  refine r_box_agg rfl ?_
  refine r_alloc rfl (by exact List.cons_ne_nil _ _) rfl ?_
  refine asI rfl ?_
  refine r_nil ?_
  refine i_then ?_
  refine t_seq ?_
  refine t_seq ?_
  refine t_region ?_
  refine r_load_ppN rfl rfl rfl (by exact Nat.le_of_ble_eq_true rfl) ?_
  refine r_call (c_Check y hs) rfl rfl rfl rfl rfl ?_
  refine asI rfl ?_
  refine r_nil ?_
  refine i_then ?_
  refine t_seq ?_
  refine t_region ?_
  refine mvI rfl ?_
  refine r_bin rfl rfl rfl ?_
  refine r_nil ?_
  refine i_then ?_
  refine t_cond_ndec rfl (fun hc1 => ?_) (fun hc1 => ?_)
  ·
    refine t_seq ?_
    refine t_vec0 (E := BinE) 39 21 ?_
    refine t_vec0 (E := MoveE) 41 22 ?_
    refine t_vec0 (E := LevelE) 102 23 ?_
    refine t_region ?_
    refine r_build rfl rfl (by exact List.cons_ne_nil _ _) rfl (by repeat (exact (Parts.nil : Parts _ _ [] _))) (by exact (rfl : _ = some [_, _, _, _])) ?_
    refine mvI rfl ?_
    refine r_storeN rfl rfl (by decide) rfl rfl rfl rfl rfl rfl ?_
    refine asI rfl ?_
    refine r_nil ?_
    refine i_then ?_
    refine t_ret ?_
    refine i_then_ret ?_
    refine g_rcell2 [21, 22, 23] rfl rfl rfl rfl rfl (by decide) rfl rfl rfl (by decide) ?_ ?_ ?_
    · exact rc_cons rfl (cc_vec (by decide) (congrArg Yard.bins (meas_1 hc1).1)) (rc_cons rfl (cc_vec (by decide) (congrArg Yard.moves (meas_1 hc1).1)) (rc_cons rfl (cc_vec (by decide) (congrArg Yard.levels (meas_1 hc1).1)) rc_nil))
    all_goals skip
    all_goals first | exact own_z (meas_1 hc1).1.symm | exact rg_cv (cv_eq rfl rfl (congrArg (Ty.int .i64) (meas_1 hc1).2))
  ·
    refine t_skip ?_
    refine i_then ?_
    refine t_seq ?_
    refine t_seq ?_
    have hck : checkY y = 0 := hc1
    refine t_region ?_
    refine r_field_pp rfl rfl rfl rfl rfl (by decide) ?_
    refine r_load_pp rfl rfl rfl rfl ?_
    refine r_len rfl rfl rfl ?_
    refine r_bin rfl rfl rfl ?_
    refine r_nil ?_
    refine i_then ?_
    refine t_cond_dec rfl (fun hc2 => ?_) (fun hc2 => ?_)
    ·
      refine t_seq ?_
      refine t_vec0 (E := BinE) 39 21 ?_
      refine t_vec0 (E := MoveE) 41 22 ?_
      refine t_vec0 (E := LevelE) 102 23 ?_
      refine t_region ?_
      refine r_build rfl rfl (by exact List.cons_ne_nil _ _) rfl (by repeat (exact (Parts.nil : Parts _ _ [] _))) (by exact (rfl : _ = some [_, _, _, _])) ?_
      refine r_storeN rfl rfl (by decide) rfl rfl rfl rfl rfl rfl ?_
      refine asI rfl ?_
      refine r_nil ?_
      refine i_then ?_
      refine t_ret ?_
      refine i_then_ret ?_
      refine g_rcell2 [21, 22, 23] rfl rfl rfl rfl rfl (by decide) rfl rfl rfl (by decide) ?_ ?_ ?_
      · exact rc_cons rfl (cc_vec (by decide) (congrArg Yard.bins (meas_2 hck hc2).1)) (rc_cons rfl (cc_vec (by decide) (congrArg Yard.moves (meas_2 hck hc2).1)) (rc_cons rfl (cc_vec (by decide) (congrArg Yard.levels (meas_2 hck hc2).1)) rc_nil))
      all_goals skip
      all_goals first | exact own_z (meas_2 hck hc2).1.symm | exact rg_cv (cv_eq rfl rfl (congrArg (Ty.int .i64) (meas_2 hck hc2).2))
    ·
      refine t_skip ?_
      refine i_then ?_
      refine t_seq ?_
      have hr := chk_right hck
      have hl1 := hr.bins
      have hl2 := hr.moves
      have hl3 := hr.levels
      refine t_region ?_
      refine r_load_ppN rfl rfl rfl (by exact Nat.le_of_ble_eq_true rfl) ?_
      refine r_callG (res' := Ty.agg [Ty.int .i64 y.days, Ty.row BinE 39 21 y.bins, Ty.row MoveE 41 22 y.moves, Ty.row LevelE 102 23 y.levels]) [(21, 21), (22, 22), (23, 12)] [21, 22, 23] [] (k_twin y hs) rfl rfl (by repeat (first | exact cv_nil | refine cv_cons ?_ ?_ | exact cv_pub rfl rfl)) pre_nil post_nil (cv_agg (cv_cons (cv_cons (cv_cons (cv_cons cv_nil (cv_row (by decide))) (cv_row (by decide))) (cv_row (by decide))) (cv_pub rfl rfl))) ?_
      refine r_alloc rfl (by exact List.cons_ne_nil _ _) rfl ?_
      refine r_storeN rfl rfl (by decide) rfl rfl rfl rfl rfl rfl ?_
      refine r_nil ?_
      refine i_then ?_
      refine t_seq ?_
      refine t_region ?_
      refine r_field_ptr rfl rfl rfl rfl rfl (by decide) ?_
      refine r_load_ptr rfl rfl (by decide) rfl rfl rfl ?_
      refine r_load_ppN rfl rfl rfl (by exact Nat.le_of_ble_eq_true rfl) ?_
      refine r_buildSlice (E := LevelE) (xs := [l]) rfl rfl rfl rfl rfl (by decide) (by decide) (by repeat (first | exact (Parts.nil : Parts _ _ [] _) | (show Parts _ _ ((_, _) :: _) _; apply Parts.agg; (· exact (rfl : _ = Ty.agg _))))) (by exact rfl) rfl ?_
      refine r_append rfl rfl (by decide) rfl rfl rfl rfl rfl rfl (by decide) (by (simp <;> omega)) (by (simp <;> omega)) ?_
      refine r_field_ptr rfl rfl rfl rfl rfl (by decide) ?_
      refine r_store1 rfl rfl (by decide) rfl rfl (by exact (rfl : _ = Ty.row _ _ _ _)) rfl (by exact Nat.le_of_ble_eq_true rfl) rfl rfl (by exact rfl) ?_
      refine r_nil ?_
      refine i_then ?_
      refine t_seq ?_
      refine t_ownCell (c0 := 8) 1 rfl rfl ?_
      refine t_ownCell (c0 := 8) 2 rfl rfl ?_
      refine t_ownCell (c0 := 8) 3 rfl rfl ?_
      refine t_asC (tg := 8) rfl (Cont.sub_cellsL (l' := ownT 21 22 23 (addL y l)) ⟨Ty.sub_refl _, Ty.row_vs rfl, Ty.row_vs rfl, Ty.row_vs rfl, trivial⟩) ?_
      refine t_forget (B := live [(4, Ty.ptr 5 0), (7, Ty.ptr 8 0)] [(5, Cont.cells 27 [Ty.int .i64 0, Ty.ex (.slice none 0 0), Ty.ex (.slice none 0 0), Ty.ex (.slice none 0 0)]), (8, Cont.cells 27 (ownT 21 22 23 (addL y l))), (21, Cont.vec BinE 39 (addL y l).bins), (22, Cont.vec MoveE 41 (addL y l).moves), (23, Cont.vec LevelE 102 (addL y l).levels)]) ?_ ?_
      · (refine Ent.mk' ?_ ?_ <;> (repeat' (first | exact allSub_zero | exact allTags_nil | refine allSub_succ' ?_ (Ty.sub_any _) | refine allSub_succ' ?_ (Ty.sub_refl _) | refine allTags_cons rfl (Cont.sub_refl _) ?_)))
      refine t_region ?_
      refine r_load_ptrN rfl rfl (by decide) rfl rfl (by exact Nat.le_of_ble_eq_true rfl) ?_
      refine r_callG (res' := Ty.tup [Ty.agg (ownT 21 22 23 (okY (addL y l))), Ty.int .i64 (checkY (addL y l))]) [(21, 21), (22, 22), (23, 23)] [] (conts 21 22 23 (okY (addL y l))) (k_right (addL y l) (addL_small hs l)) rfl rfl (cv_cons cv_nil (cv_agg (cv_cons (cv_cons (cv_cons (cv_cons cv_nil (cv_vs (by decide))) (cv_vs (by decide))) (cv_vs (by decide))) (cv_pub rfl rfl)))) (pre_cons (a := 21) (b := 21) (by decide) rfl (cc_vec (by decide) rfl) (pre_cons (a := 22) (b := 22) (by decide) rfl (cc_vec (by decide) rfl) (pre_cons (a := 23) (b := 23) (by decide) rfl (cc_vec (by decide) rfl) pre_nil))) (post_cons (a := 21) (b := 21) (by decide) rfl (cc_vec (by decide) rfl) (post_cons (a := 22) (b := 22) (by decide) rfl (cc_vec (by decide) rfl) (post_cons (a := 23) (b := 23) (by decide) rfl (cc_vec (by decide) rfl) post_nil))) (cv_tup (cv_cons (cv_cons cv_nil (cv_pub rfl rfl)) (cv_agg (cv_cons (cv_cons (cv_cons (cv_cons cv_nil (cv_vs (by decide))) (cv_vs (by decide))) (cv_vs (by decide))) (cv_pub rfl rfl))))) ?_
      refine r_extract rfl rfl ?_
      refine r_extract rfl rfl ?_
      refine r_storeN rfl rfl (by decide) rfl rfl rfl rfl rfl rfl ?_
      refine asI rfl ?_
      refine r_nil ?_
      refine i_then ?_
      refine t_ret ?_
      refine g_rcell2 [21, 22, 23] rfl rfl rfl rfl rfl (by decide) rfl rfl rfl (by decide) ?_ ?_ ?_
      · exact rc_cons rfl (cc_vec (by decide) (congrArg Yard.bins (meas_3 hck hc2).1)) (rc_cons rfl (cc_vec (by decide) (congrArg Yard.moves (meas_3 hck hc2).1)) (rc_cons rfl (cc_vec (by decide) (congrArg Yard.levels (meas_3 hck hc2).1)) rc_nil))
      all_goals skip
      all_goals first | exact own_ok (meas_3 hck hc2).1 | exact rg_cv (cv_eq rfl rfl (congrArg (Ty.int .i64) (meas_3 hck hc2).2))
set_option maxRecDepth 100000 in
theorem k_Carry (y : Yard) (hs : y.Small) (m : Move) : CtrG Tryz.prog 71 [] [] [yardT y, Ty.agg (MoveE.tys m)] (conts 21 22 23 (carrY y m)) (Ty.tup [Ty.agg (ownT 21 22 23 (carrY y m)), Ty.int .i64 (carrE y m)]) := by
  refine fnG_intro Tryz.func71 rfl (by decide) Tryz.ntmps71 (by exact Nat.le_of_ble_eq_true rfl) fun w0 M0 => ?_
  have hs1 := hs.bins
  have hs2 := hs.moves
  have hs3 := hs.levels
  refine t_seq ?_
  refine t_region ?_
  refine r_box_agg rfl ?_
  refine r_box_agg rfl ?_
  refine r_alloc rfl (by exact List.cons_ne_nil _ _) rfl ?_
  refine asI rfl ?_
  refine r_nil ?_
  refine i_then ?_
  refine t_seq ?_
  refine t_seq ?_
  refine t_region ?_
  refine r_load_ppN rfl rfl rfl (by exact Nat.le_of_ble_eq_true rfl) ?_
  refine r_call (c_Check y hs) rfl rfl rfl rfl rfl ?_
  refine asI rfl ?_
  refine r_nil ?_
  refine i_then ?_
  refine t_seq ?_
  refine t_region ?_
  refine mvI rfl ?_
  refine r_bin rfl rfl rfl ?_
  refine r_nil ?_
  refine i_then ?_
  refine t_cond_ndec rfl (fun hc1 => ?_) (fun hc1 => ?_)
  ·
    refine t_seq ?_
    refine t_vec0 (E := BinE) 39 21 ?_
    refine t_vec0 (E := MoveE) 41 22 ?_
    refine t_vec0 (E := LevelE) 102 23 ?_
    refine t_region ?_
    refine r_build rfl rfl (by exact List.cons_ne_nil _ _) rfl (by repeat (exact (Parts.nil : Parts _ _ [] _))) (by exact (rfl : _ = some [_, _, _, _])) ?_
    refine mvI rfl ?_
    refine r_storeN rfl rfl (by decide) rfl rfl rfl rfl rfl rfl ?_
    refine asI rfl ?_
    refine r_nil ?_
    refine i_then ?_
    refine t_ret ?_
    refine i_then_ret ?_
    refine g_rcell2 [21, 22, 23] rfl rfl rfl rfl rfl (by decide) rfl rfl rfl (by decide) ?_ ?_ ?_
    · exact rc_cons rfl (cc_vec (by decide) (congrArg Yard.bins (carr_1 hc1).1)) (rc_cons rfl (cc_vec (by decide) (congrArg Yard.moves (carr_1 hc1).1)) (rc_cons rfl (cc_vec (by decide) (congrArg Yard.levels (carr_1 hc1).1)) rc_nil))
    all_goals skip
    all_goals first | exact own_z (carr_1 hc1).1.symm | exact rg_cv (cv_eq rfl rfl (congrArg (Ty.int .i64) (carr_1 hc1).2))
  ·
    refine t_skip ?_
    refine i_then ?_
    refine t_seq ?_
    refine t_seq ?_
    have hck : checkY y = 0 := hc1
    refine t_region ?_
    refine r_field_pp rfl rfl rfl rfl rfl (by decide) ?_
    refine r_load_pp rfl rfl rfl rfl ?_
    refine r_len rfl rfl rfl ?_
    refine r_bin rfl rfl rfl ?_
    refine r_nil ?_
    refine i_then ?_
    refine t_cond_dec rfl (fun hc2 => ?_) (fun hc2 => ?_)
    ·
      refine t_seq ?_
      refine t_vec0 (E := BinE) 39 21 ?_
      refine t_vec0 (E := MoveE) 41 22 ?_
      refine t_vec0 (E := LevelE) 102 23 ?_
      refine t_region ?_
      refine r_build rfl rfl (by exact List.cons_ne_nil _ _) rfl (by repeat (exact (Parts.nil : Parts _ _ [] _))) (by exact (rfl : _ = some [_, _, _, _])) ?_
      refine r_storeN rfl rfl (by decide) rfl rfl rfl rfl rfl rfl ?_
      refine asI rfl ?_
      refine r_nil ?_
      refine i_then ?_
      refine t_ret ?_
      refine i_then_ret ?_
      refine g_rcell2 [21, 22, 23] rfl rfl rfl rfl rfl (by decide) rfl rfl rfl (by decide) ?_ ?_ ?_
      · exact rc_cons rfl (cc_vec (by decide) (congrArg Yard.bins (carr_2 hck hc2).1)) (rc_cons rfl (cc_vec (by decide) (congrArg Yard.moves (carr_2 hck hc2).1)) (rc_cons rfl (cc_vec (by decide) (congrArg Yard.levels (carr_2 hck hc2).1)) rc_nil))
      all_goals skip
      all_goals first | exact own_z (carr_2 hck hc2).1.symm | exact rg_cv (cv_eq rfl rfl (congrArg (Ty.int .i64) (carr_2 hck hc2).2))
    ·
      refine t_skip ?_
      refine i_then ?_
      refine t_seq ?_
      have hr := chk_right hck
      have hl1 := hr.bins
      have hl2 := hr.moves
      have hl3 := hr.levels
      refine t_region ?_
      refine r_load_ppN rfl rfl rfl (by exact Nat.le_of_ble_eq_true rfl) ?_
      refine r_callG (res' := Ty.agg [Ty.int .i64 y.days, Ty.row BinE 39 21 y.bins, Ty.row MoveE 41 22 y.moves, Ty.row LevelE 102 23 y.levels]) [(21, 21), (22, 22), (23, 12)] [21, 22, 23] [] (k_twin y hs) rfl rfl (by repeat (first | exact cv_nil | refine cv_cons ?_ ?_ | exact cv_pub rfl rfl)) pre_nil post_nil (cv_agg (cv_cons (cv_cons (cv_cons (cv_cons cv_nil (cv_row (by decide))) (cv_row (by decide))) (cv_row (by decide))) (cv_pub rfl rfl))) ?_
      refine r_alloc rfl (by exact List.cons_ne_nil _ _) rfl ?_
      refine r_storeN rfl rfl (by decide) rfl rfl rfl rfl rfl rfl ?_
      refine r_nil ?_
      refine i_then ?_
      refine t_seq ?_
      refine t_region ?_
      refine r_field_ptr rfl rfl rfl rfl rfl (by decide) ?_
      refine r_load_ptr rfl rfl (by decide) rfl rfl rfl ?_
      refine r_load_ppN rfl rfl rfl (by exact Nat.le_of_ble_eq_true rfl) ?_
      refine r_buildSlice (E := MoveE) (xs := [m]) rfl rfl rfl rfl rfl (by decide) (by decide) (by repeat (first | exact (Parts.nil : Parts _ _ [] _) | (show Parts _ _ ((_, _) :: _) _; apply Parts.agg; (· exact (rfl : _ = Ty.agg _))))) (by exact rfl) rfl ?_
      refine r_append rfl rfl (by decide) rfl rfl rfl rfl rfl rfl (by decide) (by (simp <;> omega)) (by (simp <;> omega)) ?_
      refine r_field_ptr rfl rfl rfl rfl rfl (by decide) ?_
      refine r_store1 rfl rfl (by decide) rfl rfl (by exact (rfl : _ = Ty.row _ _ _ _)) rfl (by exact Nat.le_of_ble_eq_true rfl) rfl rfl (by exact rfl) ?_
      refine r_nil ?_
      refine i_then ?_
      refine t_seq ?_
      refine t_ownCell (c0 := 8) 1 rfl rfl ?_
      refine t_ownCell (c0 := 8) 2 rfl rfl ?_
      refine t_ownCell (c0 := 8) 3 rfl rfl ?_
      refine t_asC (tg := 8) rfl (Cont.sub_cellsL (l' := ownT 21 22 23 (addM y m)) ⟨Ty.sub_refl _, Ty.row_vs rfl, Ty.row_vs rfl, Ty.row_vs rfl, trivial⟩) ?_
      refine t_forget (B := live [(4, Ty.ptr 5 0), (7, Ty.ptr 8 0)] [(5, Cont.cells 27 [Ty.int .i64 0, Ty.ex (.slice none 0 0), Ty.ex (.slice none 0 0), Ty.ex (.slice none 0 0)]), (8, Cont.cells 27 (ownT 21 22 23 (addM y m))), (21, Cont.vec BinE 39 (addM y m).bins), (22, Cont.vec MoveE 41 (addM y m).moves), (23, Cont.vec LevelE 102 (addM y m).levels)]) ?_ ?_
      · (refine Ent.mk' ?_ ?_ <;> (repeat' (first | exact allSub_zero | exact allTags_nil | refine allSub_succ' ?_ (Ty.sub_any _) | refine allSub_succ' ?_ (Ty.sub_refl _) | refine allTags_cons rfl (Cont.sub_refl _) ?_)))
      refine t_region ?_
      refine r_load_ptrN rfl rfl (by decide) rfl rfl (by exact Nat.le_of_ble_eq_true rfl) ?_
      refine r_callG (res' := Ty.tup [Ty.agg (ownT 21 22 23 (okY (addM y m))), Ty.int .i64 (checkY (addM y m))]) [(21, 21), (22, 22), (23, 23)] [] (conts 21 22 23 (okY (addM y m))) (k_right (addM y m) (addM_small hs m)) rfl rfl (cv_cons cv_nil (cv_agg (cv_cons (cv_cons (cv_cons (cv_cons cv_nil (cv_vs (by decide))) (cv_vs (by decide))) (cv_vs (by decide))) (cv_pub rfl rfl)))) (pre_cons (a := 21) (b := 21) (by decide) rfl (cc_vec (by decide) rfl) (pre_cons (a := 22) (b := 22) (by decide) rfl (cc_vec (by decide) rfl) (pre_cons (a := 23) (b := 23) (by decide) rfl (cc_vec (by decide) rfl) pre_nil))) (post_cons (a := 21) (b := 21) (by decide) rfl (cc_vec (by decide) rfl) (post_cons (a := 22) (b := 22) (by decide) rfl (cc_vec (by decide) rfl) (post_cons (a := 23) (b := 23) (by decide) rfl (cc_vec (by decide) rfl) post_nil))) (cv_tup (cv_cons (cv_cons cv_nil (cv_pub rfl rfl)) (cv_agg (cv_cons (cv_cons (cv_cons (cv_cons cv_nil (cv_vs (by decide))) (cv_vs (by decide))) (cv_vs (by decide))) (cv_pub rfl rfl))))) ?_
      refine r_extract rfl rfl ?_
      refine r_extract rfl rfl ?_
      refine r_storeN rfl rfl (by decide) rfl rfl rfl rfl rfl rfl ?_
      refine asI rfl ?_
      refine r_nil ?_
      refine i_then ?_
      refine t_ret ?_
      refine g_rcell2 [21, 22, 23] rfl rfl rfl rfl rfl (by decide) rfl rfl rfl (by decide) ?_ ?_ ?_
      · exact rc_cons rfl (cc_vec (by decide) (congrArg Yard.bins (carr_3 hck hc2).1)) (rc_cons rfl (cc_vec (by decide) (congrArg Yard.moves (carr_3 hck hc2).1)) (rc_cons rfl (cc_vec (by decide) (congrArg Yard.levels (carr_3 hck hc2).1)) rc_nil))
      all_goals skip
      all_goals first | exact own_ok (carr_3 hck hc2).1 | exact rg_cv (cv_eq rfl rfl (congrArg (Ty.int .i64) (carr_3 hck hc2).2))
end Go.Proofs.YtelbollidfdcjaaGreat

namespace Go.T
open Go Go.RowKit
def Cont.ky {α : Type} (b : Bool) (E : El α) (T : Nat) (xs : List α) : Cont :=
  { den := fun w M t => b = true → (Cont.vec E T xs).den w M t, mono := fun le _ _ hs hk h hb => (Cont.vec E T xs).mono le (fun _ h => by cases h) (fun _ h => by cases h) hs hk (h hb) }
theorem ky_sub {α : Type} {E : El α} {T : Nat} {xs : List α} {b b' : Bool} (h : b' = true → b = true) : (Cont.ky b E T xs).Sub (Cont.ky b' E T xs) := fun _ _ _ hd hb => hd (h hb)
theorem vec_ky {α : Type} {E : El α} {T : Nat} {xs : List α} {b : Bool} : (Cont.vec E T xs).Sub (Cont.ky b E T xs) := fun _ _ _ hd _ => hd
theorem ky_vec {α : Type} {E : El α} {T : Nat} {xs : List α} {b : Bool} (h : b = true) : (Cont.ky b E T xs).Sub (Cont.vec E T xs) := fun _ _ _ hd => hd h
section
variable {P : Program} {fr : Fr} {A : As} {Q : Exit → Act → World → Prop} {c : Code}
theorem t_ky0 {α : Type} (E : El α) (T tg : Nat) (xs : List α) (b : Bool) (hb : b = false) (h : Tri P fr c ⟨A.slots, (tg, .ky b E T xs) :: A.tags⟩ Q) : Tri P fr c A Q := fun a w ⟨M, ok, hsl, ht⟩ =>
  h a w ⟨M, ok, hsl, fun x hx => by
    rcases List.mem_cons.1 hx with rfl | hx
    · intro h; rw [hb] at h; cases h
    · exact ht x hx⟩
end
section
variable {P : Program} {fr : Fr} {ops : Array Oper} {A : As} {rest : List Oper} {K : As → List (As × Fx) → Prop} {d : Nat} {t ty' : TypeId} {p : String} {e : Array Edge} [T : Tab P]
theorem r_index_vsE {x y : Operand} {tg n o : Nat} {k : IntKind} {i : Nat} {ti te : TI} {el : Nat} (hx : A.op fr x = .vs tg n) (hy : A.op fr y = .int k i) (hT : T.tab[ty']? = some ti) (hk : ti.k = .slice el) (hE : T.tab[el]? = some te) (h1 : i < n) (ho : i * te.size = o)
    (h : TOps P fr ops rest (A.set d (.ptr tg o)) fun A' l' => K A' ((A, { d := some d, ty := .ptr tg o, rs := opR x ++ opR y }) :: l')) : TOps P fr ops (⟨some d, .indexAddr ty' x y, t, p, e, none⟩ :: rest) A K := by
  subst ho; exact r_index_vs hx hy hT hk hE h1 h
end
end Go.T

namespace Go.Proofs.YtelbollidfdcjaaGreat
open Go Go.T
set_option maxHeartbeats 6000000
theorem rc_of {y : Yard} : checkR y = checkY y := check_eq y
section
variable {y : Yard} {l : Level} {m : Move}
theorem meas_full (h : checkY y = 0) (h2 : ¬ (y.levels.length : Int) < 8) : 9 = measE y l ∧ yz = measY y l := by
  have hr := (chk_right h).levels
  have := meas_2 (l := l) h (by omega)
  exact ⟨this.2, this.1⟩
theorem meas_lt (h : checkY y = 0) (h2 : (y.levels.length : Int) < 8) : checkY (addL y l) = measE y l ∧ okY (addL y l) = measY y l := by
  have := meas_3 (l := l) h (by omega)
  exact ⟨this.2, this.1⟩
theorem carr_full (h : checkY y = 0) (h2 : ¬ (y.moves.length : Int) < 10) : 9 = carrE y m ∧ yz = carrY y m := by
  have hr := (chk_right h).moves
  have := carr_2 (m := m) h (by omega)
  exact ⟨this.2, this.1⟩
theorem carr_lt (h : checkY y = 0) (h2 : (y.moves.length : Int) < 10) : checkY (addM y m) = carrE y m ∧ okY (addM y m) = carrY y m := by
  have := carr_3 (m := m) h (by omega)
  exact ⟨this.2, this.1⟩
theorem meas_no (h : checkY y = 0) (h2 : (y.levels.length : Int) < 8) (h3 : ¬ checkY (addL y l) = 0) : yz = measY y l := (ok_no h3).trans (meas_lt h h2).2
theorem meas_ok (h : checkY y = 0) (h2 : (y.levels.length : Int) < 8) (h3 : checkY (addL y l) = 0) : addL y l = measY y l := (ok_yes h3).trans (meas_lt h h2).2
theorem carr_no (h : checkY y = 0) (h2 : (y.moves.length : Int) < 10) (h3 : ¬ checkY (addM y m) = 0) : yz = carrY y m := (ok_no h3).trans (carr_lt h h2).2
theorem carr_ok (h : checkY y = 0) (h2 : (y.moves.length : Int) < 10) (h3 : checkY (addM y m) = 0) : addM y m = carrY y m := (ok_yes h3).trans (carr_lt h h2).2
theorem lyk : ((((!decide (measE y l = measE y l)) || !decide (carrE y m = carrE y m)) || !sameY (measY y l) (measY y l)) || !sameY (carrY y m) (carrY y m)) = false := by
  rw [sameY_self, sameY_self]; simp
end
theorem z_sub {α : Type} {E : El α} {xs : List α} (h : [] = xs) : (Ty.ex (.slice none 0 0)).Sub (Ty.sl E xs) := by subst h; exact Ty.nil_sl
attribute [local irreducible] measY measE carrY carrE checkY checkR sameY okY greatY
attribute [local irreducible] dInt dBool dSl dPp dPtr dAgg dTup dClo dAny dEx dStr dGd dCells dVec dVs dRow dOp nth Tri Into TOps Ctr bodyPost Exit.then Exit.inBlock Code.wp Code.wpIn dWhen dPa dPe dAo dArr dMp dPm dMap dCJ CtrG CtrI OpY keepPost iterPost bodyPostM roundQ
attribute [local irreducible] dRowJ dMs dFit
set_option maxRecDepth 100000 in
theorem k_Dup_mov (l : List Move) (h : l.length ≤ 1000) : CtrG Tryz.prog 95 [] [] [Ty.sl MoveE l] [] (Ty.row MoveE 41 6 l) := by
  refine fnG_intro Tryz.func95 rfl (by decide) Tryz.ntmps95 (by exact Nat.le_of_ble_eq_true rfl) fun w0 M0 => ?_
  refine t_seq ?_
  refine t_region ?_
  refine asX rfl ?_
  refine r_nil ?_
  refine i_then ?_
  refine t_seq ?_
  refine t_region ?_
  refine mvS rfl ?_
  refine r_len rfl rfl rfl ?_
  refine r_make0 (E := MoveE) rfl rfl rfl rfl rfl rfl rfl (by decide) rfl (by omega) (by (dsimp only; omega)) (by omega) ?_
  refine mvS rfl ?_
  refine r_append rfl rfl (by decide) rfl rfl rfl rfl rfl rfl (by decide) (by (simp <;> omega)) (by (simp <;> omega)) ?_
  refine asR rfl ?_
  refine r_nil ?_
  refine i_then ?_
  refine t_ret ?_
  refine g_ret1 [6] rfl rfl (by decide) (by repeat (exact rc_nil)) ?_
  all_goals skip
  all_goals exact rg_cv (cv_row (by decide))
set_option maxRecDepth 100000 in
theorem k_Dup_lev (l : List Level) (h : l.length ≤ 1000) : CtrG Tryz.prog 96 [] [] [Ty.sl LevelE l] [] (Ty.row LevelE 102 6 l) := by
  refine fnG_intro Tryz.func96 rfl (by decide) Tryz.ntmps96 (by exact Nat.le_of_ble_eq_true rfl) fun w0 M0 => ?_
  refine t_seq ?_
  refine t_region ?_
  refine asX rfl ?_
  refine r_nil ?_
  refine i_then ?_
  refine t_seq ?_
  refine t_region ?_
  refine mvS rfl ?_
  refine r_len rfl rfl rfl ?_
  refine r_make0 (E := LevelE) rfl rfl rfl rfl rfl rfl rfl (by decide) rfl (by omega) (by (dsimp only; omega)) (by omega) ?_
  refine mvS rfl ?_
  refine r_append rfl rfl (by decide) rfl rfl rfl rfl rfl rfl (by decide) (by (simp <;> omega)) (by (simp <;> omega)) ?_
  refine asR rfl ?_
  refine r_nil ?_
  refine i_then ?_
  refine t_ret ?_
  refine g_ret1 [6] rfl rfl (by decide) (by repeat (exact rc_nil)) ?_
  all_goals skip
  all_goals exact rg_cv (cv_row (by decide))
set_option maxRecDepth 100000 in
theorem k_OwnL (y : Yard) (hs : y.Small) : CtrG Tryz.prog 29 [] [] [yardT y] [] (Ty.agg [Ty.int .i64 y.days, Ty.sl BinE y.bins, Ty.sl MoveE y.moves, Ty.row LevelE 102 9 y.levels]) := by
  refine fnG_intro Tryz.func29 rfl (by decide) Tryz.ntmps29 (by exact Nat.le_of_ble_eq_true rfl) fun w0 M0 => ?_
  refine t_seq ?_
  refine t_region ?_
  refine r_box_agg rfl ?_
  refine r_alloc rfl (by exact List.cons_ne_nil _ _) rfl ?_
  refine r_nil ?_
  refine i_then ?_
  refine t_seq ?_
  refine t_draw mixed rfl ?_
  refine r_field_pp rfl rfl rfl rfl rfl (by decide) ?_
  refine r_load_pp rfl rfl rfl rfl ?_
  refine r_field_pp rfl rfl rfl rfl rfl (by decide) ?_
  refine r_load_pp rfl rfl rfl rfl ?_
  refine r_call (c_Dup_bin y.bins hs.bins) rfl rfl rfl rfl rfl ?_
  refine r_field_pp rfl rfl rfl rfl rfl (by decide) ?_
  refine r_load_pp rfl rfl rfl rfl ?_
  refine r_call (c_Dup_mov y.moves hs.moves) rfl rfl rfl rfl rfl ?_
  refine r_field_pp rfl rfl rfl rfl rfl (by decide) ?_
  refine r_load_pp rfl rfl rfl rfl ?_
  refine r_callG [(9, 6)] [9] [] (k_Dup_lev y.levels hs.levels) rfl rfl (by repeat (first | exact cv_nil | refine cv_cons ?_ ?_ | exact cv_pub rfl rfl)) pre_nil post_nil (cv_row (by exact List.mem_cons_self)) ?_
  refine r_build rfl rfl (by exact List.cons_ne_nil _ _) rfl (by repeat (first | exact (Parts.nil : Parts _ _ [] _) | (show Parts _ _ ((_, _) :: _) _; apply Parts.one; (· first | exact (rfl : _ = Ty.int _ _) | exact (rfl : _ = Ty.sl _ _) | exact (rfl : _ = Ty.row _ _ _ _)); (· exact rfl)))) (by exact (rfl : _ = some [_, _, _, _])) ?_
  refine r_storeN rfl rfl (by decide) rfl rfl rfl rfl rfl rfl ?_
  refine r_nil ?_
  refine ⟨by kernel_rfl, ?_⟩
  refine i_then ?_
  refine t_ret ?_
  refine g_rcell [9] rfl rfl rfl rfl (by decide) rfl rfl rfl (by decide) (by repeat (exact rc_nil)) ?_
  all_goals skip
  all_goals exact rg_cv (cv_agg (cv_cons (cv_cons (cv_cons (cv_cons cv_nil (cv_row (by decide))) (cv_pub rfl rfl)) (cv_pub rfl rfl)) (cv_pub rfl rfl)))
set_option maxRecDepth 100000 in
theorem k_OwnM (y : Yard) (hs : y.Small) : CtrG Tryz.prog 29 [] [] [yardT y] [] (Ty.agg [Ty.int .i64 y.days, Ty.sl BinE y.bins, Ty.row MoveE 41 9 y.moves, Ty.sl LevelE y.levels]) := by
  refine fnG_intro Tryz.func29 rfl (by decide) Tryz.ntmps29 (by exact Nat.le_of_ble_eq_true rfl) fun w0 M0 => ?_
  refine t_seq ?_
  refine t_region ?_
  refine r_box_agg rfl ?_
  refine r_alloc rfl (by exact List.cons_ne_nil _ _) rfl ?_
  refine r_nil ?_
  refine i_then ?_
  refine t_seq ?_
  refine t_draw mixed rfl ?_
  refine r_field_pp rfl rfl rfl rfl rfl (by decide) ?_
  refine r_load_pp rfl rfl rfl rfl ?_
  refine r_field_pp rfl rfl rfl rfl rfl (by decide) ?_
  refine r_load_pp rfl rfl rfl rfl ?_
  refine r_call (c_Dup_bin y.bins hs.bins) rfl rfl rfl rfl rfl ?_
  refine r_field_pp rfl rfl rfl rfl rfl (by decide) ?_
  refine r_load_pp rfl rfl rfl rfl ?_
  refine r_callG [(9, 6)] [9] [] (k_Dup_mov y.moves hs.moves) rfl rfl (by repeat (first | exact cv_nil | refine cv_cons ?_ ?_ | exact cv_pub rfl rfl)) pre_nil post_nil (cv_row (by exact List.mem_cons_self)) ?_
  refine r_field_pp rfl rfl rfl rfl rfl (by decide) ?_
  refine r_load_pp rfl rfl rfl rfl ?_
  refine r_call (c_Dup_lev y.levels hs.levels) rfl rfl rfl rfl rfl ?_
  refine r_build rfl rfl (by exact List.cons_ne_nil _ _) rfl (by repeat (first | exact (Parts.nil : Parts _ _ [] _) | (show Parts _ _ ((_, _) :: _) _; apply Parts.one; (· first | exact (rfl : _ = Ty.int _ _) | exact (rfl : _ = Ty.sl _ _) | exact (rfl : _ = Ty.row _ _ _ _)); (· exact rfl)))) (by exact (rfl : _ = some [_, _, _, _])) ?_
  refine r_storeN rfl rfl (by decide) rfl rfl rfl rfl rfl rfl ?_
  refine r_nil ?_
  refine ⟨by kernel_rfl, ?_⟩
  refine i_then ?_
  refine t_ret ?_
  refine g_rcell [9] rfl rfl rfl rfl (by decide) rfl rfl rfl (by decide) (by repeat (exact rc_nil)) ?_
  all_goals skip
  all_goals exact rg_cv (cv_agg (cv_cons (cv_cons (cv_cons (cv_cons cv_nil (cv_pub rfl rfl)) (cv_row (by decide))) (cv_pub rfl rfl)) (cv_pub rfl rfl)))
set_option maxRecDepth 100000 in
theorem c_StockYards (y : Yard) (l : Level) (m : Move) : Ctr Tryz.prog 12 [yardT y, Ty.agg (LevelE.tys l), Ty.agg (MoveE.tys m)] (Ty.bool true) := by
  refine fn_intro Tryz.func12 rfl (by decide) Tryz.ntmps12 (by exact Nat.le_of_ble_eq_true rfl) fun w0 M0 => ?_
  refine t_seq ?_
  refine t_region ?_
  refine r_box_agg rfl ?_
  refine r_box_agg rfl ?_
  refine r_box_agg rfl ?_
  refine asB rfl ?_
  refine r_nil ?_
  refine i_then ?_
  refine t_seq ?_
  refine t_seq ?_
  refine t_region ?_
  refine r_load_ppN rfl rfl rfl (by exact Nat.le_of_ble_eq_true rfl) ?_
  refine r_call (c_great y) rfl rfl rfl rfl rfl ?_
  refine r_nil ?_
  refine i_then ?_
  refine t_cond rfl (fun hc1 => ?_) (fun hc1 => ?_)
  ·
    refine t_seq ?_
    refine t_region ?_
    refine r_call (c_awake) rfl rfl rfl rfl rfl ?_
    refine asB rfl ?_
    refine r_nil ?_
    refine i_then ?_
    refine t_ret ?_
    refine i_then_ret ?_
    refine i_rp1 rfl rfl ?_
    all_goals exact ret_refl rfl rfl
    all_goals trace_state
  ·
    refine t_skip ?_
    refine i_then ?_
    refine t_seq ?_
    have hs := small_great hc1
    refine t_region ?_
    refine r_load_ppN rfl rfl rfl (by exact Nat.le_of_ble_eq_true rfl) ?_
    refine r_call (c_Own y hs) rfl rfl rfl rfl rfl ?_
    refine r_alloc rfl (by exact List.cons_ne_nil _ _) rfl ?_
    refine r_storeN rfl rfl (by decide) rfl rfl rfl rfl rfl rfl ?_
    refine r_nil ?_
    refine i_then ?_
    refine t_seq ?_
    refine t_forget (B := live [(3, Ty.pp (yardTys y)), (4, Ty.pp (LevelE.tys l)), (5, Ty.pp (MoveE.tys m)), (7, Ty.ptr 8 0)] [(8, Cont.cells 27 (yardTys y))]) ?_ ?_
    · refine Ent.mk' ?_ ?_
      · (repeat (first | refine allSub_succ' ?_ (Ty.sub_any _) | refine allSub_succ' ?_ (Ty.sub_refl _))); exact allSub_zero
      · refine allTags_cons rfl (Cont.sub_refl _) ?_; exact allTags_nil
    refine t_region ?_
    refine r_load_ppN rfl rfl rfl (by exact Nat.le_of_ble_eq_true rfl) ?_
    refine r_call (c_theirs y hs) rfl rfl rfl rfl rfl ?_
    refine r_call (c_rCheck y hs) rfl rfl rfl rfl rfl ?_
    refine asI rfl ?_
    refine r_nil ?_
    refine i_then ?_
    refine t_seq ?_
    refine t_seq ?_
    refine t_as (s := 8) rfl (Ty.sub_int rc_of) ?_
    refine t_region ?_
    refine r_load_ptrN rfl rfl (by decide) rfl rfl (by exact Nat.le_of_ble_eq_true rfl) ?_
    refine r_call (c_Check y hs) rfl rfl rfl rfl rfl ?_
    refine mvI rfl ?_
    refine r_bin rfl rfl rfl ?_
    refine r_nil ?_
    refine i_then ?_
    refine t_cond_ff rfl (by simp) ?_
    refine t_skip ?_
    refine i_then ?_
    refine t_seq ?_
    refine t_region ?_
    refine mvI rfl ?_
    refine mvI rfl ?_
    refine asI rfl ?_
    refine asI rfl ?_
    refine r_nil ?_
    refine i_then ?_
    refine t_seq ?_
    refine t_region ?_
    refine r_alloc rfl (by exact List.cons_ne_nil _ _) rfl ?_
    refine r_alloc rfl (by exact List.cons_ne_nil _ _) rfl ?_
    refine r_nil ?_
    refine i_then ?_
    refine t_join (J := live [(3, Ty.pp (yardTys y)), (4, Ty.pp (LevelE.tys l)), (5, Ty.pp (MoveE.tys m)), (7, Ty.ptr 8 0), (9, Ty.int .i64 (measE y l)), (10, Ty.int .i64 (carrE y m)), (11, Ty.ptr 12 0), (12, Ty.ptr 13 0)] [(8, Cont.cells 27 (yardTys y)), (12, Cont.cells 27 (yardTys (measY y l))), (13, Cont.cells 27 (yardTys (carrY y m)))]) ?_ ?_
    ·
      refine t_seq ?_
      refine t_forget (B := live [(3, Ty.pp (yardTys y)), (4, Ty.pp (LevelE.tys l)), (5, Ty.pp (MoveE.tys m)), (7, Ty.ptr 8 0), (8, Ty.int .i64 (checkY y)), (9, Ty.int .i64 (checkY y)), (10, Ty.int .i64 (checkY y)), (11, Ty.ptr 12 0), (12, Ty.ptr 13 0)] [(8, Cont.cells 27 (yardTys y)), (12, Cont.cells 27 [Ty.int .i64 0, Ty.ex (.slice none 0 0), Ty.ex (.slice none 0 0), Ty.ex (.slice none 0 0)]), (13, Cont.cells 27 [Ty.int .i64 0, Ty.ex (.slice none 0 0), Ty.ex (.slice none 0 0), Ty.ex (.slice none 0 0)])]) ?_ ?_
      · refine Ent.mk' ?_ ?_
        · (repeat (first | refine allSub_succ' ?_ (Ty.sub_any _) | refine allSub_succ' ?_ (Ty.sub_refl _))); exact allSub_zero
        · refine allTags_cons rfl (Cont.sub_refl _) ?_; refine allTags_cons rfl (Cont.sub_refl _) ?_; refine allTags_cons rfl (Cont.sub_refl _) ?_; exact allTags_nil
      refine t_region ?_
      refine mvI rfl ?_
      refine r_bin rfl rfl rfl ?_
      refine r_nil ?_
      refine i_then ?_
      refine t_cond_dec rfl (fun hc3 => ?_) (fun hc3 => ?_)
      ·
        refine t_join (J := live [(3, Ty.pp (yardTys y)), (4, Ty.pp (LevelE.tys l)), (5, Ty.pp (MoveE.tys m)), (7, Ty.ptr 8 0), (8, Ty.int .i64 (checkY y)), (9, Ty.int .i64 (measE y l)), (10, Ty.int .i64 (checkY y)), (11, Ty.ptr 12 0), (12, Ty.ptr 13 0)] [(8, Cont.cells 27 (yardTys y)), (12, Cont.cells 27 (yardTys (measY y l))), (13, Cont.cells 27 [Ty.int .i64 0, Ty.ex (.slice none 0 0), Ty.ex (.slice none 0 0), Ty.ex (.slice none 0 0)])]) ?_ ?_
        ·
          refine t_seq ?_
          have hck : checkY y = 0 := hc3
          have hr := chk_right hck
          have hr1 := hr.levels
          have hr2 := hr.moves
          refine t_region ?_
          refine asI rfl ?_
          refine r_nil ?_
          refine i_then ?_
          refine t_seq ?_
          refine t_region ?_
          refine r_field_pp rfl rfl rfl rfl rfl (by decide) ?_
          refine r_load_pp rfl rfl rfl rfl ?_
          refine r_len rfl rfl rfl ?_
          refine r_bin rfl rfl rfl ?_
          refine r_nil ?_
          refine i_then ?_
          refine t_cond_dec rfl (fun hc4 => ?_) (fun hc4 => ?_)
          ·
            refine t_seq ?_
            refine t_region ?_
            refine r_load_ppN rfl rfl rfl (by exact Nat.le_of_ble_eq_true rfl) ?_
            refine r_callG (res' := Ty.agg [Ty.int .i64 y.days, Ty.sl BinE y.bins, Ty.sl MoveE y.moves, Ty.row LevelE 102 49 y.levels]) [(49, 9)] [49] [] (k_OwnL y hs) rfl rfl (by repeat (first | exact cv_nil | refine cv_cons ?_ ?_ | exact cv_pub rfl rfl)) pre_nil post_nil (cv_agg (cv_cons (cv_cons (cv_cons (cv_cons cv_nil (cv_row (by decide))) (cv_pub rfl rfl)) (cv_pub rfl rfl)) (cv_pub rfl rfl))) ?_
            refine r_storeN rfl rfl (by decide) rfl rfl rfl rfl rfl rfl ?_
            refine r_nil ?_
            refine i_then ?_
            refine t_seq ?_
            refine t_forget (B := live [(3, Ty.pp (yardTys y)), (4, Ty.pp (LevelE.tys l)), (5, Ty.pp (MoveE.tys m)), (7, Ty.ptr 8 0), (8, Ty.int .i64 (checkY y)), (10, Ty.int .i64 (checkY y)), (11, Ty.ptr 12 0), (12, Ty.ptr 13 0)] [(8, Cont.cells 27 (yardTys y)), (12, Cont.cells 27 [Ty.int .i64 y.days, Ty.sl BinE y.bins, Ty.sl MoveE y.moves, Ty.row LevelE 102 49 y.levels]), (13, Cont.cells 27 [Ty.int .i64 0, Ty.ex (.slice none 0 0), Ty.ex (.slice none 0 0), Ty.ex (.slice none 0 0)])]) ?_ ?_
            · refine Ent.mk' ?_ ?_
              · (repeat (first | refine allSub_succ' ?_ (Ty.sub_any _) | refine allSub_succ' ?_ (Ty.sub_refl _))); exact allSub_zero
              · refine allTags_cons rfl (Cont.sub_refl _) ?_; refine allTags_cons rfl (Cont.sub_cellsL ⟨Ty.sub_refl _, Ty.sub_refl _, Ty.sub_refl _, Ty.sub_refl _, trivial⟩) ?_; refine allTags_cons rfl (Cont.sub_refl _) ?_; exact allTags_nil
            refine t_region ?_
            refine r_field_ptr rfl rfl rfl rfl rfl (by decide) ?_
            refine r_load_ptr rfl rfl (by decide) rfl rfl rfl ?_
            refine r_load_ppN rfl rfl rfl (by exact Nat.le_of_ble_eq_true rfl) ?_
            refine r_buildSlice (E := LevelE) (xs := [l]) rfl rfl rfl rfl rfl (by decide) (by decide) (by repeat (first | exact (Parts.nil : Parts _ _ [] _) | (show Parts _ _ ((_, _) :: _) _; apply Parts.agg; (· exact (rfl : _ = Ty.agg _))))) (by exact rfl) rfl ?_
            refine r_append rfl rfl (by decide) rfl rfl rfl rfl rfl rfl (by decide) (by (simp <;> omega)) (by (simp <;> omega)) ?_
            refine r_field_ptr rfl rfl rfl rfl rfl (by decide) ?_
            refine r_store1 rfl rfl (by decide) rfl rfl (by exact (rfl : _ = Ty.row _ _ _ _)) rfl (by exact Nat.le_of_ble_eq_true rfl) rfl rfl (by exact rfl) ?_
            refine r_nil ?_
            refine i_then ?_
            refine t_seq ?_
            refine t_pubC (tg := 49) [] [(12, Cont.cells 27 (yardTys (addL y l)))] (by decide) rfl trivial ⟨pubC_cells rfl rfl ⟨pubTy_same rfl, pubTy_same rfl, pubTy_same rfl, pubTy_row, trivial⟩, trivial⟩ ?_
            refine t_forget (B := live [(3, Ty.pp (yardTys y)), (4, Ty.pp (LevelE.tys l)), (5, Ty.pp (MoveE.tys m)), (7, Ty.ptr 8 0), (8, Ty.int .i64 (checkY y)), (10, Ty.int .i64 (checkY y)), (11, Ty.ptr 12 0), (12, Ty.ptr 13 0)] [(8, Cont.cells 27 (yardTys y)), (12, Cont.cells 27 (yardTys (addL y l))), (13, Cont.cells 27 [Ty.int .i64 0, Ty.ex (.slice none 0 0), Ty.ex (.slice none 0 0), Ty.ex (.slice none 0 0)])]) ?_ ?_
            · refine Ent.mk' ?_ ?_
              · (repeat (first | refine allSub_succ' ?_ (Ty.sub_any _) | refine allSub_succ' ?_ (Ty.sub_refl _))); exact allSub_zero
              · refine allTags_cons rfl (Cont.sub_refl _) ?_; refine allTags_cons rfl (Cont.sub_refl _) ?_; refine allTags_cons rfl (Cont.sub_refl _) ?_; exact allTags_nil
            refine t_region ?_
            refine r_load_ptrN rfl rfl (by decide) rfl rfl (by exact Nat.le_of_ble_eq_true rfl) ?_
            refine r_call (c_theirs (addL y l) (addL_small hs l)) rfl rfl rfl rfl rfl ?_
            refine r_call (c_rCheck (addL y l) (addL_small hs l)) rfl rfl rfl rfl rfl ?_
            refine asI rfl ?_
            refine r_nil ?_
            refine i_then ?_
            refine t_seq ?_
            refine t_as (s := 9) rfl (Ty.sub_int rc_of) ?_
            refine t_region ?_
            refine mvI rfl ?_
            refine r_bin rfl rfl rfl ?_
            refine r_nil ?_
            refine i_then ?_
            refine t_cond_ndec rfl (fun hc5 => ?_) (fun hc5 => ?_)
            ·
              refine t_region ?_
              refine r_build rfl rfl (by exact List.cons_ne_nil _ _) rfl (by repeat (exact (Parts.nil : Parts _ _ [] _))) (by exact (rfl : _ = some [_, _, _, _])) ?_
              refine r_storeN rfl rfl (by decide) rfl rfl rfl rfl rfl rfl ?_
              refine r_nil ?_
              refine i_join ?_
              (refine Ent.mk' ?_ ?_ <;> (repeat' (first | exact allSub_zero | exact allTags_nil | exact subs_nil | refine allSub_succ' ?_ (Ty.sub_any _) | refine allSub_succ' ?_ (Ty.sub_refl _) | refine allTags_cons rfl (Cont.sub_refl _) ?_ | refine allTags_cons rfl (Cont.sub_subs ?_) ?_ | refine subs_cons ?_ ?_ | refine allSub_succ' ?_ ?_)))
              all_goals first | exact z_sub (congrArg Yard.bins (meas_no hck hc4 hc5)) | exact z_sub (congrArg Yard.moves (meas_no hck hc4 hc5)) | exact z_sub (congrArg Yard.levels (meas_no hck hc4 hc5)) | exact Ty.sub_int (congrArg Yard.days (meas_no hck hc4 hc5)) | exact Ty.sub_int ((meas_lt hck hc4).1)
            ·
              refine t_skip ?_
              refine i_join ?_
              (refine Ent.mk' ?_ ?_ <;> (repeat' (first | exact allSub_zero | exact allTags_nil | exact subs_nil | refine allSub_succ' ?_ (Ty.sub_any _) | refine allSub_succ' ?_ (Ty.sub_refl _) | refine allTags_cons rfl (Cont.sub_refl _) ?_ | refine allTags_cons rfl (Cont.sub_subs ?_) ?_ | refine subs_cons ?_ ?_ | refine allSub_succ' ?_ ?_)))
              all_goals first | exact Ty.sub_sl (congrArg Yard.bins (meas_ok hck hc4 hc5)) | exact Ty.sub_sl (congrArg Yard.moves (meas_ok hck hc4 hc5)) | exact Ty.sub_sl (congrArg Yard.levels (meas_ok hck hc4 hc5)) | exact Ty.sub_int (congrArg Yard.days (meas_ok hck hc4 hc5)) | exact Ty.sub_int ((meas_lt hck hc4).1)
          ·
            refine t_skip ?_
            refine i_join ?_
            (refine Ent.mk' ?_ ?_ <;> (repeat' (first | exact allSub_zero | exact allTags_nil | exact subs_nil | refine allSub_succ' ?_ (Ty.sub_any _) | refine allSub_succ' ?_ (Ty.sub_refl _) | refine allTags_cons rfl (Cont.sub_refl _) ?_ | refine allTags_cons rfl (Cont.sub_subs ?_) ?_ | refine subs_cons ?_ ?_ | refine allSub_succ' ?_ ?_)))
            all_goals first | exact z_sub (congrArg Yard.bins ((meas_full hck hc4).2)) | exact z_sub (congrArg Yard.moves ((meas_full hck hc4).2)) | exact z_sub (congrArg Yard.levels ((meas_full hck hc4).2)) | exact Ty.sub_int (congrArg Yard.days ((meas_full hck hc4).2)) | exact Ty.sub_int ((meas_full hck hc4).1)
        ·
          refine t_seq ?_
          refine t_region ?_
          refine asI rfl ?_
          refine r_nil ?_
          refine i_then ?_
          refine t_seq ?_
          refine t_region ?_
          refine r_field_pp rfl rfl rfl rfl rfl (by decide) ?_
          refine r_load_pp rfl rfl rfl rfl ?_
          refine r_len rfl rfl rfl ?_
          refine r_bin rfl rfl rfl ?_
          refine r_nil ?_
          refine i_then ?_
          refine t_cond_dec rfl (fun hc6 => ?_) (fun hc6 => ?_)
          ·
            refine t_seq ?_
            refine t_region ?_
            refine r_load_ppN rfl rfl rfl (by exact Nat.le_of_ble_eq_true rfl) ?_
            refine r_callG (res' := Ty.agg [Ty.int .i64 y.days, Ty.sl BinE y.bins, Ty.row MoveE 41 59 y.moves, Ty.sl LevelE y.levels]) [(59, 9)] [59] [] (k_OwnM y hs) rfl rfl (by repeat (first | exact cv_nil | refine cv_cons ?_ ?_ | exact cv_pub rfl rfl)) pre_nil post_nil (cv_agg (cv_cons (cv_cons (cv_cons (cv_cons cv_nil (cv_pub rfl rfl)) (cv_row (by decide))) (cv_pub rfl rfl)) (cv_pub rfl rfl))) ?_
            refine r_storeN rfl rfl (by decide) rfl rfl rfl rfl rfl rfl ?_
            refine r_nil ?_
            refine i_then ?_
            refine t_seq ?_
            refine t_forget (B := live [(3, Ty.pp (yardTys y)), (4, Ty.pp (LevelE.tys l)), (5, Ty.pp (MoveE.tys m)), (7, Ty.ptr 8 0), (8, Ty.int .i64 (checkY y)), (9, Ty.int .i64 (measE y l)), (11, Ty.ptr 12 0), (12, Ty.ptr 13 0)] [(8, Cont.cells 27 (yardTys y)), (12, Cont.cells 27 (yardTys (measY y l))), (13, Cont.cells 27 [Ty.int .i64 y.days, Ty.sl BinE y.bins, Ty.row MoveE 41 59 y.moves, Ty.sl LevelE y.levels])]) ?_ ?_
            · refine Ent.mk' ?_ ?_
              · (repeat (first | refine allSub_succ' ?_ (Ty.sub_any _) | refine allSub_succ' ?_ (Ty.sub_refl _))); exact allSub_zero
              · refine allTags_cons rfl (Cont.sub_refl _) ?_; refine allTags_cons rfl (Cont.sub_refl _) ?_; refine allTags_cons rfl (Cont.sub_cellsL ⟨Ty.sub_refl _, Ty.sub_refl _, Ty.sub_refl _, Ty.sub_refl _, trivial⟩) ?_; exact allTags_nil
            refine t_region ?_
            refine r_field_ptr rfl rfl rfl rfl rfl (by decide) ?_
            refine r_load_ptr rfl rfl (by decide) rfl rfl rfl ?_
            refine r_load_ppN rfl rfl rfl (by exact Nat.le_of_ble_eq_true rfl) ?_
            refine r_buildSlice (E := MoveE) (xs := [m]) rfl rfl rfl rfl rfl (by decide) (by decide) (by repeat (first | exact (Parts.nil : Parts _ _ [] _) | (show Parts _ _ ((_, _) :: _) _; apply Parts.agg; (· exact (rfl : _ = Ty.agg _))))) (by exact rfl) rfl ?_
            refine r_append rfl rfl (by decide) rfl rfl rfl rfl rfl rfl (by decide) (by (simp <;> omega)) (by (simp <;> omega)) ?_
            refine r_field_ptr rfl rfl rfl rfl rfl (by decide) ?_
            refine r_store1 rfl rfl (by decide) rfl rfl (by exact (rfl : _ = Ty.row _ _ _ _)) rfl (by exact Nat.le_of_ble_eq_true rfl) rfl rfl (by exact rfl) ?_
            refine r_nil ?_
            refine i_then ?_
            refine t_seq ?_
            refine t_pubC (tg := 59) [] [(13, Cont.cells 27 (yardTys (addM y m)))] (by decide) rfl trivial ⟨pubC_cells rfl rfl ⟨pubTy_same rfl, pubTy_same rfl, pubTy_row, pubTy_same rfl, trivial⟩, trivial⟩ ?_
            refine t_forget (B := live [(3, Ty.pp (yardTys y)), (4, Ty.pp (LevelE.tys l)), (5, Ty.pp (MoveE.tys m)), (7, Ty.ptr 8 0), (8, Ty.int .i64 (checkY y)), (9, Ty.int .i64 (measE y l)), (11, Ty.ptr 12 0), (12, Ty.ptr 13 0)] [(8, Cont.cells 27 (yardTys y)), (12, Cont.cells 27 (yardTys (measY y l))), (13, Cont.cells 27 (yardTys (addM y m)))]) ?_ ?_
            · refine Ent.mk' ?_ ?_
              · (repeat (first | refine allSub_succ' ?_ (Ty.sub_any _) | refine allSub_succ' ?_ (Ty.sub_refl _))); exact allSub_zero
              · refine allTags_cons rfl (Cont.sub_refl _) ?_; refine allTags_cons rfl (Cont.sub_refl _) ?_; refine allTags_cons rfl (Cont.sub_refl _) ?_; exact allTags_nil
            refine t_region ?_
            refine r_load_ptrN rfl rfl (by decide) rfl rfl (by exact Nat.le_of_ble_eq_true rfl) ?_
            refine r_call (c_theirs (addM y m) (addM_small hs m)) rfl rfl rfl rfl rfl ?_
            refine r_call (c_rCheck (addM y m) (addM_small hs m)) rfl rfl rfl rfl rfl ?_
            refine asI rfl ?_
            refine r_nil ?_
            refine i_then ?_
            refine t_seq ?_
            refine t_as (s := 10) rfl (Ty.sub_int rc_of) ?_
            refine t_region ?_
            refine mvI rfl ?_
            refine r_bin rfl rfl rfl ?_
            refine r_nil ?_
            refine i_then ?_
            refine t_cond_ndec rfl (fun hc7 => ?_) (fun hc7 => ?_)
            ·
              refine t_region ?_
              refine r_build rfl rfl (by exact List.cons_ne_nil _ _) rfl (by repeat (exact (Parts.nil : Parts _ _ [] _))) (by exact (rfl : _ = some [_, _, _, _])) ?_
              refine r_storeN rfl rfl (by decide) rfl rfl rfl rfl rfl rfl ?_
              refine r_nil ?_
              refine i_join ?_
              (refine Ent.mk' ?_ ?_ <;> (repeat' (first | exact allSub_zero | exact allTags_nil | exact subs_nil | refine allSub_succ' ?_ (Ty.sub_any _) | refine allSub_succ' ?_ (Ty.sub_refl _) | refine allTags_cons rfl (Cont.sub_refl _) ?_ | refine allTags_cons rfl (Cont.sub_subs ?_) ?_ | refine subs_cons ?_ ?_ | refine allSub_succ' ?_ ?_)))
              all_goals first | exact z_sub (congrArg Yard.bins (carr_no hc3 hc6 hc7)) | exact z_sub (congrArg Yard.moves (carr_no hc3 hc6 hc7)) | exact z_sub (congrArg Yard.levels (carr_no hc3 hc6 hc7)) | exact Ty.sub_int (congrArg Yard.days (carr_no hc3 hc6 hc7)) | exact Ty.sub_int ((carr_lt hc3 hc6).1)
            ·
              refine t_skip ?_
              refine i_join ?_
              (refine Ent.mk' ?_ ?_ <;> (repeat' (first | exact allSub_zero | exact allTags_nil | exact subs_nil | refine allSub_succ' ?_ (Ty.sub_any _) | refine allSub_succ' ?_ (Ty.sub_refl _) | refine allTags_cons rfl (Cont.sub_refl _) ?_ | refine allTags_cons rfl (Cont.sub_subs ?_) ?_ | refine subs_cons ?_ ?_ | refine allSub_succ' ?_ ?_)))
              all_goals first | exact Ty.sub_sl (congrArg Yard.bins (carr_ok hc3 hc6 hc7)) | exact Ty.sub_sl (congrArg Yard.moves (carr_ok hc3 hc6 hc7)) | exact Ty.sub_sl (congrArg Yard.levels (carr_ok hc3 hc6 hc7)) | exact Ty.sub_int (congrArg Yard.days (carr_ok hc3 hc6 hc7)) | exact Ty.sub_int ((carr_lt hc3 hc6).1)
          ·
            refine t_skip ?_
            refine i_join ?_
            (refine Ent.mk' ?_ ?_ <;> (repeat' (first | exact allSub_zero | exact allTags_nil | exact subs_nil | refine allSub_succ' ?_ (Ty.sub_any _) | refine allSub_succ' ?_ (Ty.sub_refl _) | refine allTags_cons rfl (Cont.sub_refl _) ?_ | refine allTags_cons rfl (Cont.sub_subs ?_) ?_ | refine subs_cons ?_ ?_ | refine allSub_succ' ?_ ?_)))
            all_goals first | exact z_sub (congrArg Yard.bins ((carr_full hc3 hc6).2)) | exact z_sub (congrArg Yard.moves ((carr_full hc3 hc6).2)) | exact z_sub (congrArg Yard.levels ((carr_full hc3 hc6).2)) | exact Ty.sub_int (congrArg Yard.days ((carr_full hc3 hc6).2)) | exact Ty.sub_int ((carr_full hc3 hc6).1)
      ·
        refine t_skip ?_
        refine i_join ?_
        (refine Ent.mk' ?_ ?_ <;> (repeat' (first | exact allSub_zero | exact allTags_nil | exact subs_nil | refine allSub_succ' ?_ (Ty.sub_any _) | refine allSub_succ' ?_ (Ty.sub_refl _) | refine allTags_cons rfl (Cont.sub_refl _) ?_ | refine allTags_cons rfl (Cont.sub_subs ?_) ?_ | refine subs_cons ?_ ?_ | refine allSub_succ' ?_ ?_)))
        all_goals first | exact z_sub (congrArg Yard.bins ((meas_1 hc3).1)) | exact z_sub (congrArg Yard.moves ((meas_1 hc3).1)) | exact z_sub (congrArg Yard.levels ((meas_1 hc3).1)) | exact Ty.sub_int (congrArg Yard.days ((meas_1 hc3).1)) | exact z_sub (congrArg Yard.bins ((carr_1 hc3).1)) | exact z_sub (congrArg Yard.moves ((carr_1 hc3).1)) | exact z_sub (congrArg Yard.levels ((carr_1 hc3).1)) | exact Ty.sub_int (congrArg Yard.days ((carr_1 hc3).1)) | exact Ty.sub_int ((meas_1 hc3).2) | exact Ty.sub_int ((carr_1 hc3).2)
    ·
      refine t_seq ?_
      refine t_region ?_
      refine r_load_ptrN rfl rfl (by decide) rfl rfl (by exact Nat.le_of_ble_eq_true rfl) ?_
      refine r_load_ppN rfl rfl rfl (by exact Nat.le_of_ble_eq_true rfl) ?_
      refine r_callG (res' := Ty.tup [Ty.agg (ownT 721 722 723 (measY y l)), Ty.int .i64 (measE y l)]) [(721, 21), (722, 22), (723, 23)] [721, 722, 723] (conts 721 722 723 (measY y l)) (k_Measure y hs l) rfl rfl (by repeat (first | exact cv_nil | refine cv_cons ?_ ?_ | refine cv_agg ?_ | exact cv_pub rfl rfl)) pre_nil (post_cons (a := 721) (b := 21) (by decide) rfl (cc_vec (by decide) rfl) (post_cons (a := 722) (b := 22) (by decide) rfl (cc_vec (by decide) rfl) (post_cons (a := 723) (b := 23) (by decide) rfl (cc_vec (by decide) rfl) post_nil))) (cv_tup (cv_cons (cv_cons cv_nil (cv_pub rfl rfl)) (cv_agg (cv_cons (cv_cons (cv_cons (cv_cons cv_nil (cv_vs (by decide))) (cv_vs (by decide))) (cv_vs (by decide))) (cv_pub rfl rfl))))) ?_
      refine mvT rfl ?_
      refine r_extract rfl rfl ?_
      refine r_extract rfl rfl ?_
      refine r_alloc rfl (by exact List.cons_ne_nil _ _) rfl ?_
      refine r_storeN rfl rfl (by decide) rfl rfl rfl rfl rfl rfl ?_
      refine asI rfl ?_
      refine r_nil ?_
      refine i_then ?_
      refine t_seq ?_
      refine t_forget (B := live [(3, Ty.pp (yardTys y)), (5, Ty.pp (MoveE.tys m)), (7, Ty.ptr 8 0), (9, Ty.int .i64 (measE y l)), (10, Ty.int .i64 (carrE y m)), (11, Ty.ptr 12 0), (12, Ty.ptr 13 0), (13, Ty.ptr 14 0), (14, Ty.int .i64 (measE y l))] [(8, Cont.cells 27 (yardTys y)), (12, Cont.cells 27 (yardTys (measY y l))), (13, Cont.cells 27 (yardTys (carrY y m))), (14, Cont.cells 27 (ownT 721 722 723 (measY y l))), (721, Cont.vec BinE 39 (measY y l).bins), (722, Cont.vec MoveE 41 (measY y l).moves), (723, Cont.vec LevelE 102 (measY y l).levels)]) ?_ ?_
      · refine Ent.mk' ?_ ?_
        · (repeat (first | refine allSub_succ' ?_ (Ty.sub_any _) | refine allSub_succ' ?_ (Ty.sub_refl _))); exact allSub_zero
        · refine allTags_cons rfl (Cont.sub_refl _) ?_; refine allTags_cons rfl (Cont.sub_refl _) ?_; refine allTags_cons rfl (Cont.sub_refl _) ?_; refine allTags_cons rfl (Cont.sub_cellsL ⟨Ty.sub_refl _, Ty.sub_refl _, Ty.sub_refl _, Ty.sub_refl _, trivial⟩) ?_; refine allTags_cons rfl (Cont.sub_refl _) ?_; refine allTags_cons rfl (Cont.sub_refl _) ?_; refine allTags_cons rfl (Cont.sub_refl _) ?_; exact allTags_nil
      refine t_region ?_
      refine r_load_ptrN rfl rfl (by decide) rfl rfl (by exact Nat.le_of_ble_eq_true rfl) ?_
      refine r_load_ppN rfl rfl rfl (by exact Nat.le_of_ble_eq_true rfl) ?_
      refine r_callG (res' := Ty.tup [Ty.agg (ownT 821 822 823 (carrY y m)), Ty.int .i64 (carrE y m)]) [(821, 21), (822, 22), (823, 23)] [821, 822, 823] (conts 821 822 823 (carrY y m)) (k_Carry y hs m) rfl rfl (by repeat (first | exact cv_nil | refine cv_cons ?_ ?_ | refine cv_agg ?_ | exact cv_pub rfl rfl)) pre_nil (post_cons (a := 821) (b := 21) (by decide) rfl (cc_vec (by decide) rfl) (post_cons (a := 822) (b := 22) (by decide) rfl (cc_vec (by decide) rfl) (post_cons (a := 823) (b := 23) (by decide) rfl (cc_vec (by decide) rfl) post_nil))) (cv_tup (cv_cons (cv_cons cv_nil (cv_pub rfl rfl)) (cv_agg (cv_cons (cv_cons (cv_cons (cv_cons cv_nil (cv_vs (by decide))) (cv_vs (by decide))) (cv_vs (by decide))) (cv_pub rfl rfl))))) ?_
      refine mvT rfl ?_
      refine r_extract rfl rfl ?_
      refine r_extract rfl rfl ?_
      refine r_alloc rfl (by exact List.cons_ne_nil _ _) rfl ?_
      refine r_storeN rfl rfl (by decide) rfl rfl rfl rfl rfl rfl ?_
      refine asI rfl ?_
      refine r_nil ?_
      refine i_then ?_
      refine t_seq ?_
      refine t_seq ?_
      refine t_forget (B := live [(3, Ty.pp (yardTys y)), (7, Ty.ptr 8 0), (9, Ty.int .i64 (measE y l)), (10, Ty.int .i64 (carrE y m)), (11, Ty.ptr 12 0), (12, Ty.ptr 13 0), (13, Ty.ptr 14 0), (14, Ty.int .i64 (measE y l)), (15, Ty.ptr 16 0), (16, Ty.int .i64 (carrE y m))] [(8, Cont.cells 27 (yardTys y)), (12, Cont.cells 27 (yardTys (measY y l))), (13, Cont.cells 27 (yardTys (carrY y m))), (14, Cont.cells 27 (ownT 721 722 723 (measY y l))), (16, Cont.cells 27 (ownT 821 822 823 (carrY y m))), (721, Cont.vec BinE 39 (measY y l).bins), (722, Cont.vec MoveE 41 (measY y l).moves), (723, Cont.vec LevelE 102 (measY y l).levels), (821, Cont.vec BinE 39 (carrY y m).bins), (822, Cont.vec MoveE 41 (carrY y m).moves), (823, Cont.vec LevelE 102 (carrY y m).levels)]) ?_ ?_
      · refine Ent.mk' ?_ ?_
        · (repeat (first | refine allSub_succ' ?_ (Ty.sub_any _) | refine allSub_succ' ?_ (Ty.sub_refl _))); exact allSub_zero
        · refine allTags_cons rfl (Cont.sub_refl _) ?_; refine allTags_cons rfl (Cont.sub_refl _) ?_; refine allTags_cons rfl (Cont.sub_refl _) ?_; refine allTags_cons rfl (Cont.sub_refl _) ?_; refine allTags_cons rfl (Cont.sub_cellsL ⟨Ty.sub_refl _, Ty.sub_refl _, Ty.sub_refl _, Ty.sub_refl _, trivial⟩) ?_; refine allTags_cons rfl (Cont.sub_refl _) ?_; refine allTags_cons rfl (Cont.sub_refl _) ?_; refine allTags_cons rfl (Cont.sub_refl _) ?_; refine allTags_cons rfl (Cont.sub_refl _) ?_; refine allTags_cons rfl (Cont.sub_refl _) ?_; refine allTags_cons rfl (Cont.sub_refl _) ?_; exact allTags_nil
      refine t_region ?_
      refine mvI rfl ?_
      refine mvI rfl ?_
      refine r_bin rfl rfl rfl ?_
      refine mvB rfl ?_
      apply r_guard (s := 86) rfl rfl rfl
      · intro hg; apply opT_of; (refine mvI rfl ?_); refine r_nil ?_; exact rfl
      · exact rfl
      · exact rfl
      apply r_guard (s := 86) rfl rfl rfl
      · intro hg; apply opT_of; (refine mvI rfl ?_); refine r_nil ?_; exact rfl
      · exact rfl
      · exact rfl
      apply r_guard (s := 86) rfl rfl rfl
      · intro hg; apply opT_strip (s := 87) rfl (by (rw [hg]; rfl)); apply opT_strip (s := 88) rfl (by (rw [hg]; rfl)); apply opT_of; (refine r_bin rfl rfl rfl ?_); refine r_nil ?_; exact rfl
      · exact rfl
      · exact rfl
      refine r_or rfl rfl ?_
      refine mvB rfl ?_
      apply r_guard (s := 91) rfl rfl rfl
      · intro hg; apply opT_of; (refine r_load_ptrN rfl rfl (by decide) rfl rfl (by exact Nat.le_of_ble_eq_true rfl) ?_); refine r_nil ?_; exact rfl
      · exact rfl
      · exact rfl
      apply r_guard (s := 91) rfl rfl rfl
      · intro hg; apply opT_of; (refine r_load_ptrN rfl rfl (by decide) rfl rfl (by exact Nat.le_of_ble_eq_true rfl) ?_); refine r_nil ?_; exact rfl
      · exact rfl
      · exact rfl
      apply r_guard (s := 91) rfl rfl rfl
      · intro hg; apply opT_strip (s := 92) rfl (by (rw [hg]; rfl)); apply opT_strip (s := 93) rfl (by (rw [hg]; rfl)); apply opT_of; (refine r_callLC [721, 722, 723] (c_same (measY y l) (measY y l)) rfl (lendcs_cons (lendc_agg (lendcs_cons (lendc_of (lend_pub rfl rfl)) (lendcs_cons (lendc_vs rfl rfl (by decide) rfl) (lendcs_cons (lendc_vs rfl rfl (by decide) rfl) (lendcs_cons (lendc_vs rfl rfl (by decide) rfl) lendcs_nil))))) (lendcs_cons (lendc_of (lend_pub rfl rfl)) lendcs_nil)) (by exact plain_bool _) ?_); refine r_nil ?_; exact rfl
      · exact rfl
      · exact rfl
      apply r_guard (s := 91) rfl rfl rfl
      · intro hg; apply opT_strip (s := 94) rfl (by (rw [hg]; rfl)); apply opT_of; (refine r_not rfl ?_); refine r_nil ?_; exact rfl
      · exact rfl
      · exact rfl
      refine r_or rfl rfl ?_
      refine mvB rfl ?_
      apply r_guard (s := 97) rfl rfl rfl
      · intro hg; apply opT_of; (refine r_load_ptrN rfl rfl (by decide) rfl rfl (by exact Nat.le_of_ble_eq_true rfl) ?_); refine r_nil ?_; exact rfl
      · exact rfl
      · exact rfl
      apply r_guard (s := 97) rfl rfl rfl
      · intro hg; apply opT_of; (refine r_load_ptrN rfl rfl (by decide) rfl rfl (by exact Nat.le_of_ble_eq_true rfl) ?_); refine r_nil ?_; exact rfl
      · exact rfl
      · exact rfl
      apply r_guard (s := 97) rfl rfl rfl
      · intro hg; apply opT_strip (s := 98) rfl (by (rw [hg]; rfl)); apply opT_strip (s := 99) rfl (by (rw [hg]; rfl)); apply opT_of; (refine r_callLC [821, 822, 823] (c_same (carrY y m) (carrY y m)) rfl (lendcs_cons (lendc_agg (lendcs_cons (lendc_of (lend_pub rfl rfl)) (lendcs_cons (lendc_vs rfl rfl (by decide) rfl) (lendcs_cons (lendc_vs rfl rfl (by decide) rfl) (lendcs_cons (lendc_vs rfl rfl (by decide) rfl) lendcs_nil))))) (lendcs_cons (lendc_of (lend_pub rfl rfl)) lendcs_nil)) (by exact plain_bool _) ?_); refine r_nil ?_; exact rfl
      · exact rfl
      · exact rfl
      apply r_guard (s := 97) rfl rfl rfl
      · intro hg; apply opT_strip (s := 100) rfl (by (rw [hg]; rfl)); apply opT_of; (refine r_not rfl ?_); refine r_nil ?_; exact rfl
      · exact rfl
      · exact rfl
      refine r_or rfl rfl ?_
      refine r_nil ?_
      refine i_then ?_
      refine t_cond_ff rfl (lyk) ?_
      refine t_skip ?_
      refine i_then ?_
      refine t_seq ?_
      refine t_seq ?_
      refine t_forget (B := live [(3, Ty.pp (yardTys y)), (7, Ty.ptr 8 0), (13, Ty.ptr 14 0), (15, Ty.ptr 16 0)] [(8, Cont.cells 27 (yardTys y)), (14, Cont.cells 27 (ownT 721 722 723 (measY y l))), (16, Cont.cells 27 (ownT 821 822 823 (carrY y m))), (721, Cont.vec BinE 39 (measY y l).bins), (722, Cont.vec MoveE 41 (measY y l).moves), (723, Cont.vec LevelE 102 (measY y l).levels), (821, Cont.vec BinE 39 (carrY y m).bins), (822, Cont.vec MoveE 41 (carrY y m).moves), (823, Cont.vec LevelE 102 (carrY y m).levels)]) ?_ ?_
      · refine Ent.mk' ?_ ?_
        · (repeat (first | refine allSub_succ' ?_ (Ty.sub_any _) | refine allSub_succ' ?_ (Ty.sub_refl _))); exact allSub_zero
        · refine allTags_cons rfl (Cont.sub_refl _) ?_; refine allTags_cons rfl (Cont.sub_refl _) ?_; refine allTags_cons rfl (Cont.sub_refl _) ?_; refine allTags_cons rfl (Cont.sub_refl _) ?_; refine allTags_cons rfl (Cont.sub_refl _) ?_; refine allTags_cons rfl (Cont.sub_refl _) ?_; refine allTags_cons rfl (Cont.sub_refl _) ?_; refine allTags_cons rfl (Cont.sub_refl _) ?_; refine allTags_cons rfl (Cont.sub_refl _) ?_; exact allTags_nil
      refine t_region ?_
      refine r_load_ptrN rfl rfl (by decide) rfl rfl (by exact Nat.le_of_ble_eq_true rfl) ?_
      refine r_load_ptrN rfl rfl (by decide) rfl rfl (by exact Nat.le_of_ble_eq_true rfl) ?_
      refine r_buildOwn 106 (l := ownT 721 722 723 (measY y l) ++ ownT 821 822 823 (carrY y m)) rfl rfl rfl rfl (by decide) (by decide) (by decide) (by decide) (by decide) rfl rfl (by repeat (first | exact (Parts.nil : Parts _ _ [] _) | (show Parts _ _ ((_, _) :: _) _; apply Parts.agg; (· exact (rfl : _ = Ty.agg _))))) rfl ?_
      refine r_len_vs rfl rfl rfl ?_
      refine mvI rfl ?_
      refine r_nil ?_
      refine i_then ?_
      refine t_block ?_
      refine t_loop (fun (k : {k : Nat // k ≤ 2}) => live [(3, Ty.pp (yardTys y)), (7, Ty.ptr 8 0), (105, Ty.vs 106 2), (106, Ty.int .i64 ((2 : Nat) : Int)), (107, Ty.int .i64 (k.1 : Nat))] [(8, Cont.cells 27 (yardTys y)), (106, Cont.cells 27 (ownT 721 722 723 (measY y l) ++ ownT 821 822 823 (carrY y m))), (721, Cont.ky (decide (k.1 = 0)) BinE 39 (measY y l).bins), (722, Cont.ky (decide (k.1 = 0)) MoveE 41 (measY y l).moves), (723, Cont.ky (decide (k.1 = 0)) LevelE 102 (measY y l).levels), (821, Cont.ky (decide (k.1 ≤ 1)) BinE 39 (carrY y m).bins), (822, Cont.ky (decide (k.1 ≤ 1)) MoveE 41 (carrY y m).moves), (823, Cont.ky (decide (k.1 ≤ 1)) LevelE 102 (carrY y m).levels)]) (fun k => 2 - k.1) (⟨0, by omega⟩) ?_ fun k => ?_
      · (refine Ent.mk' ?_ ?_ <;> (repeat' (first | exact allSub_zero | exact allTags_nil | refine allSub_succ' ?_ (Ty.sub_any _) | refine allSub_succ' ?_ (Ty.sub_refl _) | refine allTags_cons rfl (Cont.sub_refl _) ?_ | refine allTags_cons rfl ?_ ?_)))
        all_goals exact vec_ky
      ·
        have hk2 := k.2
        refine t_seq ?_
        refine t_region ?_
        refine r_bin rfl rfl rfl ?_
        refine r_nil ?_
        refine i_then ?_
        refine t_seq ?_
        refine t_cond_dec rfl (fun hc9 => ?_) (fun hc9 => ?_)
        ·
          refine t_skip ?_
          refine i_then ?_
          refine t_seq ?_
          refine t_block ?_
          refine t_seq ?_
          cases hsp : (decide (k.1 = 0))
          ·
            (have hk0 : k.1 = 1 := by { have h1 := of_decide_eq_false hsp; omega }; refine t_asC (tg := 821) rfl (ky_vec (by (rw [decide_eq_true_eq]; omega))) ?_; refine t_asC (tg := 822) rfl (ky_vec (by (rw [decide_eq_true_eq]; omega))) ?_; refine t_asC (tg := 823) rfl (ky_vec (by (rw [decide_eq_true_eq]; omega))) ?_)
            refine t_region ?_
            refine r_index_vsE (o := 4) rfl rfl rfl rfl rfl (by omega) (by show k.1 * 4 = 4; omega) ?_
            refine r_load_ptrN rfl rfl (by decide) rfl rfl (by exact Nat.le_of_ble_eq_true rfl) ?_
            refine r_alloc rfl (by exact List.cons_ne_nil _ _) rfl ?_
            refine r_storeN rfl rfl (by decide) rfl rfl rfl rfl rfl rfl ?_
            refine r_nil ?_
            refine i_then ?_
            refine t_seq ?_
            refine t_region ?_
            refine r_field_ptr rfl rfl rfl rfl rfl (by decide) ?_
            refine r_load_ptr rfl rfl (by decide) rfl rfl rfl ?_
            refine r_clearVs rfl rfl (by omega) (by decide) rfl rfl rfl rfl rfl (by decide) rfl ?_
            refine r_nil ?_
            refine i_then ?_
            refine t_seq ?_
            refine t_region ?_
            refine r_field_ptr rfl rfl rfl rfl rfl (by decide) ?_
            refine r_load_ptr rfl rfl (by decide) rfl rfl rfl ?_
            refine r_clearVs rfl rfl (by omega) (by decide) rfl rfl rfl rfl rfl (by decide) rfl ?_
            refine r_nil ?_
            refine i_then ?_
            refine t_region ?_
            refine r_field_ptr rfl rfl rfl rfl rfl (by decide) ?_
            refine r_load_ptr rfl rfl (by decide) rfl rfl rfl ?_
            refine r_clearVs rfl rfl (by omega) (by decide) rfl rfl rfl rfl rfl (by decide) rfl ?_
            refine r_nil ?_
            refine i_block ?_
            refine i_then ?_
            (refine t_ky0 BinE 39 821 (carrY y m).bins false rfl ?_; refine t_ky0 MoveE 41 822 (carrY y m).moves false rfl ?_; refine t_ky0 LevelE 102 823 (carrY y m).levels false rfl ?_)
            refine t_region ?_
            refine r_add rfl rfl (by omega) (by omega) ?_
            refine mvI rfl ?_
            refine r_nil ?_
            refine i_round (⟨k.1 + 1, by omega⟩) ?_ (by show 2 - (k.1 + 1) < 2 - k.1; omega)
            (refine Ent.mk' ?_ ?_ <;> (repeat' (first | exact allSub_zero | exact allTags_nil | refine allSub_succ' ?_ (Ty.sub_any _) | refine allSub_succ' ?_ (Ty.sub_refl _) | refine allTags_cons rfl (Cont.sub_refl _) ?_ | refine allTags_cons rfl ?_ ?_)))
            all_goals skip
            all_goals exact ky_sub (by simp only [decide_eq_true_eq]; omega)
          ·
            (have hk0 : k.1 = 0 := of_decide_eq_true hsp; refine t_asC (tg := 721) rfl (ky_vec (by rfl)) ?_; refine t_asC (tg := 722) rfl (ky_vec (by rfl)) ?_; refine t_asC (tg := 723) rfl (ky_vec (by rfl)) ?_)
            refine t_region ?_
            refine r_index_vsE (o := 0) rfl rfl rfl rfl rfl (by omega) (by show k.1 * 4 = 0; omega) ?_
            refine r_load_ptrN rfl rfl (by decide) rfl rfl (by exact Nat.le_of_ble_eq_true rfl) ?_
            refine r_alloc rfl (by exact List.cons_ne_nil _ _) rfl ?_
            refine r_storeN rfl rfl (by decide) rfl rfl rfl rfl rfl rfl ?_
            refine r_nil ?_
            refine i_then ?_
            refine t_seq ?_
            refine t_region ?_
            refine r_field_ptr rfl rfl rfl rfl rfl (by decide) ?_
            refine r_load_ptr rfl rfl (by decide) rfl rfl rfl ?_
            refine r_clearVs rfl rfl (by omega) (by decide) rfl rfl rfl rfl rfl (by decide) rfl ?_
            refine r_nil ?_
            refine i_then ?_
            refine t_seq ?_
            refine t_region ?_
            refine r_field_ptr rfl rfl rfl rfl rfl (by decide) ?_
            refine r_load_ptr rfl rfl (by decide) rfl rfl rfl ?_
            refine r_clearVs rfl rfl (by omega) (by decide) rfl rfl rfl rfl rfl (by decide) rfl ?_
            refine r_nil ?_
            refine i_then ?_
            refine t_region ?_
            refine r_field_ptr rfl rfl rfl rfl rfl (by decide) ?_
            refine r_load_ptr rfl rfl (by decide) rfl rfl rfl ?_
            refine r_clearVs rfl rfl (by omega) (by decide) rfl rfl rfl rfl rfl (by decide) rfl ?_
            refine r_nil ?_
            refine i_block ?_
            refine i_then ?_
            (have : k.1 = 0 := hk0; refine t_ky0 BinE 39 721 (measY y l).bins false rfl ?_; refine t_ky0 MoveE 41 722 (measY y l).moves false rfl ?_; refine t_ky0 LevelE 102 723 (measY y l).levels false rfl ?_)
            refine t_region ?_
            refine r_add rfl rfl (by omega) (by omega) ?_
            refine mvI rfl ?_
            refine r_nil ?_
            refine i_round (⟨k.1 + 1, by omega⟩) ?_ (by show 2 - (k.1 + 1) < 2 - k.1; omega)
            (refine Ent.mk' ?_ ?_ <;> (repeat' (first | exact allSub_zero | exact allTags_nil | refine allSub_succ' ?_ (Ty.sub_any _) | refine allSub_succ' ?_ (Ty.sub_refl _) | refine allTags_cons rfl (Cont.sub_refl _) ?_ | refine allTags_cons rfl ?_ ?_)))
            all_goals skip
            all_goals exact ky_sub (by simp only [decide_eq_true_eq]; omega)
        ·
          refine t_exit ?_
          refine i_then_exit ?_
          refine i_then_exit ?_
          refine i_block_exit rfl ?_
          refine i_then ?_
          refine t_seq ?_
          refine t_region ?_
          refine r_load_ptrN rfl rfl (by decide) rfl rfl (by exact Nat.le_of_ble_eq_true rfl) ?_
          refine r_load_ppN rfl rfl rfl (by exact Nat.le_of_ble_eq_true rfl) ?_
          refine r_call (c_same y y) rfl rfl rfl rfl rfl ?_
          refine mvB rfl ?_
          apply r_guard (s := 121) rfl rfl rfl
          · intro hg; apply opT_of; (refine r_call (c_awake) rfl rfl rfl rfl rfl ?_); refine r_nil ?_; exact rfl
          · exact rfl
          · exact rfl
          refine r_and rfl rfl ?_
          refine asB rfl ?_
          refine r_nil ?_
          refine i_then ?_
          refine t_ret ?_
          refine i_rp1 rfl rfl ?_
          all_goals skip
          all_goals exact ret_eq rfl rfl (congrArg Ty.bool (by rw [sameY_self]; rfl))
end Go.Proofs.YtelbollidfdcjaaGreat

namespace Go.T
open Go Go.RowKit Go.ChangeShapes Go.WideShapes Go.ChangeAt
def pubs : Tags := fun _ => none
theorem wf_pubs (w : World) : Wf w pubs := ⟨fun _ _ h => (by cases h), fun _ _ _ _ h => (by cases h)⟩
theorem pubs_zero : ∀ b t, pubs b = some t → t = 0 := fun _ _ h => by cases h
structure Rd {α : Type} (P : Program) (e : TypeId) (E : El α) : Prop where
  size : P.cellsOf e = E.size
  pos : 0 < E.size
  rd : ∀ {H : Type} {enc : TypeId × Value → H} {w : World} {base : Nat} {held : Bool} {n : Nat} {cs : List Value} {y : DataW H × List MemPlace}, DataW.trod enc P w base (fun _ => true) held n e cs = some y → ∃ x, dens w pubs (E.tys x) cs
section
variable {H : Type} {enc : TypeId × Value → H} {P : Program} {w : World} {base : Nat} {held : Bool} {α : Type} {E : El α} {t e : TypeId} {n : Nat} {cs : List Value} {y : DataW H × List MemPlace}
theorem rd_sl (hR : Rd P e E) (ht : P.underlying t = some (.slice e)) (h : DataW.trod enc P w base (fun _ => true) held n t cs = some y) : ∃ v xs, cs = [v] ∧ (Ty.sl E xs).den w pubs v := by
  rcases Go.Deep.open_slice ht h with ⟨rfl, _⟩ | ⟨a, len, cap, m, k, D, Pl, rfl, _, hl, hm, hmm, _, hel⟩
  · exact ⟨_, [], rfl, none, 0, rfl, Nat.le_refl _, Nat.zero_le _, fun h => absurd h (Nat.lt_irrefl _)⟩
  have hlm : len ≤ m := by rw [hmm]; simpa using hl
  have hX : ∀ i : Fin len, ∃ x : α, ∃ cs', w.cells? base (a.add (i.1 * P.cellsOf e)) (P.cellsOf e) = some cs' ∧ dens w pubs (E.tys x) cs' := fun i => by
    obtain ⟨cs', h1, h2⟩ := hel i.1 (Nat.lt_of_lt_of_le i.2 hlm)
    obtain ⟨x, hx⟩ := hR.rd h2
    exact ⟨x, cs', h1, hx⟩
  let X : Fin len → α := fun i => (hX i).choose
  have hXs : ∀ i : Fin len, ∃ cs', w.cells? base (a.add (i.1 * P.cellsOf e)) (P.cellsOf e) = some cs' ∧ dens w pubs (E.tys (X i)) cs' := fun i => (hX i).choose_spec
  have hlen : (List.ofFn X).length = len := by simp
  refine ⟨_, List.ofFn X, rfl, some a, cap, by rw [hlen], by rw [hlen]; exact hl, hm, fun h0 => ?_⟩
  rw [hlen] at h0
  have hcell : ∀ (i : Fin len) (j : Nat) (u : Ty), (E.tys (X i))[j]? = some u → ∃ v, w.cell? (a.add (i.1 * E.size + j)) = some v ∧ u.den w pubs v := fun i j u hu => by
    obtain ⟨cs', h1, h2⟩ := hXs i
    obtain ⟨v, hv, hd⟩ := dens_get h2 j u hu
    obtain ⟨_, g1, g2⟩ := World.cells?_some h1
    have hj : j < P.cellsOf e := by
      rw [hR.size, ← E.len (X i)]
      exact (List.getElem?_eq_some_iff.1 hu).1
    refine ⟨v, ?_, hd⟩
    have := g2 j hj
    rw [Go.Deep.add_add, hv, hR.size] at this
    exact this
  have hsz := hR.pos
  have hfirst : ∃ v, w.cell? (a.add 0) = some v := by
    obtain ⟨u, hu⟩ : ∃ u, (E.tys (X ⟨0, h0⟩))[0]? = some u := ⟨_, List.getElem?_eq_getElem (by rw [E.len]; exact hsz)⟩
    obtain ⟨v, hv, _⟩ := hcell ⟨0, h0⟩ 0 u hu
    exact ⟨v, by simpa using hv⟩
  obtain ⟨b, off, sp⟩ := a
  obtain ⟨v0, hv0⟩ := hfirst
  have hsp : sp = none := by simpa [Addr.add] using World.cell?_spot hv0
  subst hsp
  have hb : b < w.heap.size := by
    obtain ⟨cs', h1, _⟩ := hXs ⟨0, h0⟩
    have := World.cells?_block h1 (by rw [hR.size]; exact hsz)
    simpa [Addr.add] using this
  refine ⟨b, off, rfl, rfl, hb, fun i u hu => ?_⟩
  have hi : i < len * E.size := by
    have := (List.getElem?_eq_some_iff.1 hu).1
    rw [flat_len, hlen] at this; exact this
  have hk : i / E.size < len := Nat.div_lt_of_lt_mul (by rw [Nat.mul_comm]; exact hi)
  have hj : i % E.size < E.size := Nat.mod_lt _ hsz
  have hij : i / E.size * E.size + i % E.size = i := by rw [Nat.mul_comm]; exact Nat.div_add_mod i E.size
  have hu2 := hu
  rw [← hij, flat_get E _ _ _ (by rw [hlen]; exact hk) hj, List.getElem?_ofFn, dif_pos hk] at hu2
  obtain ⟨v, hv, hd⟩ := hcell ⟨i / E.size, hk⟩ (i % E.size) u hu2
  refine ⟨v, ?_, hd⟩
  rw [← Go.WideShapes.add_plain]
  rw [hij] at hv
  exact hv
theorem rd_struct2 {f0 f1 : Field} (hs : P.underlying t = some (.struct #[f0, f1])) (hC : P.cellsOf t = 2) (h0 : f0.offset = 0 ∧ P.cellsOf f0.type = 1) (h1 : f1.offset = 1 ∧ P.cellsOf f1.type = 1) (h : DataW.trod enc P w base (fun _ => true) held n t cs = some y) :
    ∃ c0 c1 y0 y1 m, cs = [c0, c1] ∧ DataW.trod enc P w base (fun _ => true) held m f0.type [c0] = some y0 ∧ DataW.trod enc P w base (fun _ => true) held m f1.type [c1] = some y1 := by
  obtain ⟨y0, y1, m, _, hl, g0, g1⟩ := Go.ChangeShapes.trod_struct2 hs h
  rw [hC] at hl
  match cs, hl with
  | [c0, c1], _ =>
    rw [h0.1, h0.2] at g0
    rw [h1.1, h1.2] at g1
    exact ⟨c0, c1, y0, y1, m, rfl, g0, g1⟩
theorem rd_int {k : IntKind} {c : Value} (ht : P.underlying t = some (.int k)) (h : DataW.trod enc P w base (fun _ => true) held n t [c] = some y) : ∃ i, c = .int k i := by
  obtain ⟨i, e, _⟩ := DataW.trod_int ht h
  exact ⟨i, by simpa using e⟩
theorem rd_sl1 {c : Value} (hR : Rd P e E) (ht : P.underlying t = some (.slice e)) (h : DataW.trod enc P w base (fun _ => true) held n t [c] = some y) : ∃ xs, (Ty.sl E xs).den w pubs c := by
  obtain ⟨v, xs, e, hd⟩ := rd_sl hR ht h
  exact ⟨xs, by rw [show c = v by simpa using e]; exact hd⟩
end
section
variable {w w' : World} {S K : Nat → Prop} {M' : Tags}
theorem le_block (le : Le S K w pubs w' M') {b : Nat} (hb : b < w.heap.size) : w'.heap[b]? = w.heap[b]? := (le.pub b hb rfl).2
theorem le_same (le : Le S K w pubs w' M') {p : MemPlace} (hp : p.block < w.heap.size) : w.sameAt w' p := by
  cases p with
  | cell b o => exact World.cell?_of_block (w := w) (le_block le hp)
  | map b => exact le_block le hp
theorem le_kept (le : Le S K w pubs w' M') (may : MemPlace → Prop) : w.keptBut w' may := by
  refine ⟨le.os, le.out, fun i hi => ?_⟩
  have e := le_block le hi
  rw [e]
  split
  · rename_i h1 h2
    rw [h1] at h2
    simp only [Option.some.injEq, Obj.cells.injEq] at h2
    obtain ⟨rfl, rfl, rfl⟩ := h2
    exact ⟨rfl, rfl, rfl, fun _ _ => rfl⟩
  · rename_i h1 h2
    rw [h1] at h2
    simp only [Option.some.injEq, Obj.map.injEq] at h2
    exact Or.inr ⟨h2.1.symm, h2.2.symm⟩
  · rfl
theorem le_frozen (le : Le S K w pubs w' M') {a : Addr} (ha : a.block < w.heap.size) : w'.frozen? a = w.frozen? a := by
  unfold World.frozen?
  rw [le_block le ha]
end
section
variable {H : Type} {enc : TypeId × Value → H} {P : Program}
theorem trodAll_stays (hl : laidOutB P = true) {w w' : World} {sp : Nat → Bool} : ∀ {ts : List TypeId} {vs : List Value} {ds : List (DataW H)} {ps : List MemPlace}, (∀ t ∈ ts, P.readableRec t = true ∧ t < P.types.size) →
    DataW.TrodAll enc P w 0 (fun _ => true) true ts vs ds ps → (∀ p ∈ ps, w.sameAt w' p) → (∀ p ∈ ps, sp p.block = true) → DataW.TrodAll enc P w' 0 sp true ts vs ds ps
  | [], [], [], _, _, h, _, _ => h
  | t :: ts, v :: vs, d :: ds, _, ht, ⟨p, q, h1, h2, e⟩, hs, hsp => by
    subst e
    have h0 := ht t List.mem_cons_self
    exact ⟨p, q, Go.WideElems.Trod_stays hl h0.1 h0.2 h1 (fun x hx => hs x (List.mem_append_left _ hx)) (fun x hx => hsp x (List.mem_append_left _ hx)),
      trodAll_stays hl (fun t h => ht t (List.mem_cons_of_mem _ h)) h2 (fun x hx => hs x (List.mem_append_right _ hx)) (fun x hx => hsp x (List.mem_append_right _ hx)), rfl⟩
theorem post_true {f : Func} {s : ChangeSpec} {apart fresh handsOn again : Bool} {W W' : World} {args : Array Value} {ds : List (DataW H)} {before : List MemPlace} {S K : Nat → Prop} {M' : Tags}
    (hl : laidOutB P = true) (hv : s.vars = []) (hrd : ∀ t ∈ f.params.toList, P.readableRec t = true ∧ t < P.types.size) {tb : TypeId} (htb : P.underlying tb = some .bool) (hrt : f.resultTypes = #[tb])
    (hW : DataW.Whole enc P f.params.toList s.vars apart W args.toList ds [] before) (hres : (s.fn H (ds ++ [])).results = [.lit (.bool true)]) (hargs : (s.fn H (ds ++ [])).args = ds) (hvars : (s.fn H (ds ++ [])).vars = [])
    (le : Le S K W pubs W' M') : s.post enc P f apart fresh handsOn again W args (.bool true) W' := by
  have hW0 := hW
  obtain ⟨p, q, hA, hV, hb, hfz, hn⟩ := hW0
  have hlt := DataW.TrodAll.lt hA
  have hq : q = [] := by rw [hv] at hV; exact (trodVars_none hV).2
  subst hq
  have hbp : before = p := by rw [hb]; simp
  have hre : ∀ (b : Nat) (sp : Nat → Bool) (hd : Bool), DataW.TrodAll enc P W' b sp hd f.resultTypes.toList ((Value.bool true).resultList f.resultTypes.size) (s.fn H (ds ++ [])).results [] := fun b sp hd => by
    rw [hrt, hres]; exact trodAll_mk1 (shut_bool htb true)
  have har : ∀ sp : Nat → Bool, (∀ x ∈ p, sp x.block = true) → DataW.TrodAll enc P W' 0 sp true f.params.toList args.toList (s.fn H (ds ++ [])).args p := fun sp hsp => by
    rw [hargs]; exact trodAll_stays hl hrd hA (fun x hx => le_same le (hlt x hx)) hsp
  have hva : ∀ sp : Nat → Bool, DataW.TrodVars enc P W' sp s.vars (s.fn H (ds ++ [])).vars [] := fun sp => by
    rw [hvars, hv]; exact rfl
  have hok : ∀ (j : Nat) (t : TypeId) (r : Value), f.resultTypes[j]? = some t → ((Value.bool true).resultList f.resultTypes.size)[j]? = some r → Value.okWide P W' .any 0 t r := by
    exact ok_one (by rw [hrt]) rfl (okWide_bool_mk htb true)
  refine ⟨ds, [], before, [], p, [], hW, hre _ _ _, har _ (fun x hx => by simpa using hlt x hx), hva _, World.keptBut_mono (fun x hx => hx) (le_kept le _), fun _ => ?_⟩
  refine ⟨hok, _, _, ([] ++ p) ++ [], ⟨[] ++ p, [], trodAll_append (har _ (fun _ _ => rfl)) (hre _ _ _), hva _, rfl, ?_, ?_⟩, ?_⟩
  · intro b off hp
    have hp' : MemPlace.cell b off ∈ p := by simpa using hp
    rw [le_frozen le (hlt _ hp')]
    exact hfz b off (by rw [hbp]; exact hp')
  · intro ha
    have := hn ha
    rw [hbp] at this
    simpa using this
  · intro x hx _
    rw [hbp]
    simpa using hx
end
end Go.T

namespace Go.Proofs.YtelbollidfdcjaaGreat
open Go Go.T Go.RowKit Go.ChangeShapes Go.WideShapes Go.ChangeAt
theorem of3 : Tryz.prog.cellsOf 3 = 1 := by kernel_rfl
theorem of37 : Tryz.prog.cellsOf 37 = 2 := by kernel_rfl
theorem of39 : Tryz.prog.cellsOf 39 = 3 := by kernel_rfl
theorem of41 : Tryz.prog.cellsOf 41 = 5 := by kernel_rfl
theorem of102 : Tryz.prog.cellsOf 102 = 4 := by kernel_rfl
set_option maxRecDepth 100000 in
theorem rdSpn : Rd Tryz.prog 37 SpanE := ⟨of37, by decide, fun h => by
  obtain ⟨c0, c1, y0, y1, m, rfl, h0, h1⟩ := rd_struct2 Tryz.underlying37 of37 ⟨rfl, by kernel_rfl⟩ ⟨rfl, by kernel_rfl⟩ h
  obtain ⟨a, rfl⟩ := rd_int Tryz.underlying3 h0
  obtain ⟨b, rfl⟩ := rd_int Tryz.underlying3 h1
  exact ⟨⟨a, b⟩, rfl, rfl, trivial⟩⟩
set_option maxRecDepth 100000 in
theorem rdBin : Rd Tryz.prog 39 BinE := ⟨of39, by decide, fun {_ _ _ _ _ _ cs _} h => by
  obtain ⟨y0, y1, m, _, hl, g0, g1⟩ := Go.ChangeShapes.trod_struct2 Tryz.underlying39 h
  rw [of39] at hl
  match cs, hl with
  | [c0, c1, c2], _ =>
    simp only [of3, of37] at g0 g1
    obtain ⟨a, rfl⟩ := rd_int (c := c0) Tryz.underlying3 g0
    obtain ⟨s, hs⟩ := rdSpn.rd (cs := [c1, c2]) g1
    exact ⟨⟨a, s⟩, rfl, hs⟩⟩
set_option maxRecDepth 100000 in
theorem rdMov : Rd Tryz.prog 41 MoveE := ⟨of41, by decide, fun {_ _ _ _ _ _ cs _} h => by
  obtain ⟨y0, y1, y2, y3, m, _, hl, g0, g1, g2, g3⟩ := Go.Joins.trod_struct4 Tryz.underlying41 h
  rw [of41] at hl
  match cs, hl with
  | [c0, c1, c2, c3, c4], _ =>
    simp only [of3, of37] at g0 g1 g2 g3
    obtain ⟨a, rfl⟩ := rd_int (c := c0) Tryz.underlying3 g0
    obtain ⟨b, rfl⟩ := rd_int (c := c1) Tryz.underlying3 g1
    obtain ⟨c, rfl⟩ := rd_int (c := c2) Tryz.underlying3 g2
    obtain ⟨s, hs⟩ := rdSpn.rd (cs := [c3, c4]) g3
    exact ⟨⟨a, b, c, s⟩, rfl, rfl, rfl, hs⟩⟩
set_option maxRecDepth 100000 in
theorem rdLev : Rd Tryz.prog 102 LevelE := ⟨of102, by decide, fun {_ _ _ _ _ _ cs _} h => by
  obtain ⟨y0, y1, y2, m, _, hl, g0, g1, g2⟩ := Go.Deep.trod_struct3 Tryz.underlying102 h
  rw [of102] at hl
  match cs, hl with
  | [c0, c1, c2, c3], _ =>
    simp only [of3, of37] at g0 g1 g2
    obtain ⟨a, rfl⟩ := rd_int (c := c0) Tryz.underlying3 g0
    obtain ⟨b, rfl⟩ := rd_int (c := c1) Tryz.underlying3 g1
    obtain ⟨s, hs⟩ := rdSpn.rd (cs := [c2, c3]) g2
    exact ⟨⟨a, b, s⟩, rfl, rfl, hs⟩⟩
section
variable {H : Type} {enc : TypeId × Value → H} {W : World} {base : Nat} {held : Bool} {v : Value} {d : DataW H} {p : List MemPlace}
set_option maxRecDepth 100000 in
theorem rd_agg {α : Type} {E : El α} {t : TypeId} {fs : Array Field} (hR : Rd Tryz.prog t E) (hs : Tryz.prog.underlying t = some (.struct fs)) (hv : Value.okWide Tryz.prog W .any base t v) (h : DataW.Trod enc Tryz.prog W 0 (fun _ => true) held t v d p) : ∃ x, (Ty.agg (E.tys x)).den W pubs v := by
  obtain ⟨cs, rfl, hsz⟩ := okWide_struct hs hv
  obtain ⟨fuel, hf⟩ := h
  obtain ⟨x, hx⟩ := hR.rd (cs := cs.toList) (by simpa [Value.cells] using hf)
  exact ⟨x, cs, rfl, hx⟩
set_option maxRecDepth 100000 in
theorem rd_yard (hv : Value.okWide Tryz.prog W .any base 27 v) (h : DataW.Trod enc Tryz.prog W 0 (fun _ => true) held 27 v d p) : ∃ y, (yardT y).den W pubs v := by
  obtain ⟨c0, c1, c2, c3, y0, y1, y2, y3, n, rfl, _, _, h0, h1, h2, h3⟩ := Go.Joins.open_agg4 Tryz.underlying27 (by kernel_rfl) (by kernel_rfl) hv h
  obtain ⟨a, rfl⟩ := rd_int Tryz.underlying3 h0
  obtain ⟨bs, e1⟩ := rd_sl1 rdBin Tryz.underlying23 h1
  obtain ⟨ms, e2⟩ := rd_sl1 rdMov Tryz.underlying24 h2
  obtain ⟨ls, e3⟩ := rd_sl1 rdLev Tryz.underlying25 h3
  exact ⟨⟨a, bs, ms, ls⟩, _, rfl, rfl, e1, e2, e3, trivial⟩
set_option maxRecDepth 100000 in
theorem rd_lev (hv : Value.okWide Tryz.prog W .any base 102 v) (h : DataW.Trod enc Tryz.prog W 0 (fun _ => true) held 102 v d p) : ∃ x, (Ty.agg (LevelE.tys x)).den W pubs v := rd_agg rdLev Tryz.underlying102 hv h
set_option maxRecDepth 100000 in
theorem rd_mov (hv : Value.okWide Tryz.prog W .any base 41 v) (h : DataW.Trod enc Tryz.prog W 0 (fun _ => true) held 41 v d p) : ∃ x, (Ty.agg (MoveE.tys x)).den W pubs v := rd_agg rdMov Tryz.underlying41 hv h
end
end Go.Proofs.YtelbollidfdcjaaGreat
