/- Lemmas: the program and the reference walked, plain laws. -/
import Derived.Test.YtifgbnbkimcchaaNd
namespace Go.Proofs.Ytifgbnbkimcchaa
open Go Go.T
set_option maxHeartbeats 2000000
attribute [local irreducible] dInt dBool dSl dPp dPtr dAgg dTup dClo dAny dEx dStr dGd dCells dVec dVs dRow dOp nth Tri Into TOps Ctr bodyPost Exit.then Exit.inBlock Code.wp Code.wpIn dWhen dPa dPe dAo dArr dMp dPm dMap dCJ CtrG CtrI OpY keepPost iterPost bodyPostM roundQ
section
variable {l : Led} {k f : Nat} {m : List Bool}
theorem tos_lt8 {t : Int} (h : t ∈ tosOf l f) : 0 ≤ t ∧ t < 8 := by have := tos_lt h; omega
def OIx.skip {t : Nat} (x : OIx l k f t m) (h : (x.i : Int) < (l.T : Nat)) (hc : (decide ((x.i : Int) = (f : Nat)) || decide (l.P x.i t = 0)) = true) : OIx l k f t m :=
  ⟨x.i + 1, x.met, by omega, x.len, x.un, by rw [others_at x (by omega), if_pos (by rw [← hc]; congr 1; rw [decide_eq_decide]; omega)]⟩
def OIx.go {t : Nat} (x : OIx l k f t m) (h : (x.i : Int) < (l.T : Nat)) (hc : (decide ((x.i : Int) = (f : Nat)) || decide (l.P x.i t = 0)) = false) (he : (!(wayM l k x.i x.met).1.isEmpty) = false) : OIx l k f t m :=
  ⟨x.i + 1, (wayM l k x.i x.met).2, by omega, (way_spec l k x.i x.met x.len x.un).len, Nat.lt_of_le_of_lt (unm_le (way_spec l k x.i x.met x.len x.un).sub) x.un, by
    have h1 : (wayM l k x.i x.met).1 = [] := by simpa using he
    rw [others_at x (by omega), if_neg (by rw [Bool.not_eq_true, ← hc]; congr 1; rw [decide_eq_decide]; omega), if_pos h1]⟩
theorem OIx.found {t : Nat} (x : OIx l k f t m) (h : (x.i : Int) < (l.T : Nat)) (hc : (decide ((x.i : Int) = (f : Nat)) || decide (l.P x.i t = 0)) = false) (he : (!(wayM l k x.i x.met).1.isEmpty) = true) : othersM (wayM l k) l f t (List.range l.T) m = wayM l k x.i x.met ∧ (wayM l k x.i x.met).1 ≠ [] := by
  have h1 : (wayM l k x.i x.met).1 ≠ [] := by simpa using he
  exact ⟨by rw [others_at x (by omega), if_neg (by rw [Bool.not_eq_true, ← hc]; congr 1; rw [decide_eq_decide]; omega), if_neg h1], h1⟩
variable (x : TIx l k f m) (h : (x.i : Int) < ((tosOf l f).length : Nat))
include h
theorem TIx.nat : x.i < (tosOf l f).length := by omega
def TIx.skip (hc : (decide (0 ≤ addB l.w l.bay (nth (tosOf l f) x.i).toNat) || nth x.met (nth (tosOf l f) x.i).toNat) = true) : TIx l k f m :=
  ⟨x.i + 1, x.met, by omega, x.len, x.un, by rw [tos_at x (by omega), if_pos (by exact hc)]⟩
theorem TIx.un2 (hc : (decide (0 ≤ addB l.w l.bay (nth (tosOf l f) x.i).toNat) || nth x.met (nth (tosOf l f) x.i).toNat) = false) : unm (x.met.set (nth (tosOf l f) x.i).toNat true) < k := by
  have h8 := (tos_lt (nth_mem (x.nat h))).1
  have := unm_lt x.len h8 (Bool.or_eq_false_iff.1 hc).2
  have := x.un
  omega
def TIx.go (hc : (decide (0 ≤ addB l.w l.bay (nth (tosOf l f) x.i).toNat) || nth x.met (nth (tosOf l f) x.i).toNat) = false) (hl : ¬ 0 < leftM l (nth (tosOf l f) x.i).toNat) (y : OIx l k f (nth (tosOf l f) x.i).toNat (x.met.set (nth (tosOf l f) x.i).toNat true)) (hy : ¬ (y.i : Int) < (l.T : Nat)) : TIx l k f m :=
  ⟨x.i + 1, y.met, by omega, y.len, by have := y.un; omega, by
    have e := others_end y (by omega)
    rw [tos_at x (by omega), if_neg (by rw [Bool.not_eq_true]; exact hc), if_neg hl, e, if_pos rfl]⟩
theorem TIx.last (hc : (decide (0 ≤ addB l.w l.bay (nth (tosOf l f) x.i).toNat) || nth x.met (nth (tosOf l f) x.i).toNat) = false) (hl : 0 < leftM l (nth (tosOf l f) x.i).toNat) : wayM l (k + 1) f m = ([(f : Int), nth (tosOf l f) x.i], x.met.set (nth (tosOf l f) x.i).toNat true) := by
  rw [wayM, tos_at x (by omega), if_neg (by rw [Bool.not_eq_true]; exact hc), if_pos hl]
theorem TIx.found (hc : (decide (0 ≤ addB l.w l.bay (nth (tosOf l f) x.i).toNat) || nth x.met (nth (tosOf l f) x.i).toNat) = false) (hl : ¬ 0 < leftM l (nth (tosOf l f) x.i).toNat) (y : OIx l k f (nth (tosOf l f) x.i).toNat (x.met.set (nth (tosOf l f) x.i).toNat true)) (hy : (y.i : Int) < (l.T : Nat)) (h1 : (decide ((y.i : Int) = (f : Nat)) || decide (l.P y.i (nth (tosOf l f) x.i).toNat = 0)) = false) (h2 : (!(wayM l k y.i y.met).1.isEmpty) = true) : wayM l (k + 1) f m = ((f : Int) :: nth (tosOf l f) x.i :: (wayM l k y.i y.met).1, (wayM l k y.i y.met).2) := by
  obtain ⟨e, hne⟩ := y.found hy h1 h2
  rw [wayM, tos_at x (by omega), if_neg (by rw [Bool.not_eq_true]; exact hc), if_neg hl, e, if_neg hne]
end
theorem TIx.stop {l : Led} {k f : Nat} {m : List Bool} (x : TIx l k f m) (h : ¬ (x.i : Int) < ((tosOf l f).length : Nat)) : wayM l (k + 1) f m = ([], x.met) := by
  rw [wayM, tos_end x (by omega)]
theorem clo_conv {ρ : List (Nat × Nat)} (h0 : (1000, 1000) ∈ ρ) (h1 : (1001, 1001) ∈ ρ) (h2 : (1002, 1002) ∈ ρ) : Convs ρ [Ty.clo 161 [Ty.pp [Ty.ptr 1000 0], Ty.ptr 1001 0, Ty.ptr 1002 0]] [Ty.clo 161 [Ty.pp [Ty.ptr 1000 0], Ty.ptr 1001 0, Ty.ptr 1002 0]] :=
  cv_cons cv_nil (cv_clo (cv_cons (cv_cons (cv_cons cv_nil (cv_ptr h2)) (cv_ptr h1)) (cv_pp (cv_cons cv_nil (cv_ptr h0)))))
theorem way_rc {A : As} {l : Led} {m m' : List Bool} (h0 : A.tag 1000 = some (Cont.vec LedE 168 [l])) (h1 : A.tag 1001 = some (Cont.vec BoolE 185 m)) (h2 : A.tag 1002 = some (Cont.cells 96 [Ty.clo 161 [Ty.pp [Ty.ptr 1000 0], Ty.ptr 1001 0, Ty.ptr 1002 0]])) (e : m = m') : RetCs A [1000, 1001, 1002] (wayPre l m') :=
  rc_cons h0 (cc_vec (by decide) rfl) (rc_cons h1 (cc_vec (by decide) e) (rc_cons h2 (cc_cells (by decide) (clo_conv (by decide) (by decide) (by decide))) rc_nil))
theorem c_leftI (l : Led) (hl : LOk l) (t : Int) (ht : 0 ≤ t ∧ t < 8) : CtrG Try.prog 151 [1000] [(1000, Cont.vec LedE 168 [l])] [Ty.ptr 1000 0, Ty.int .i64 t] [(1000, Cont.vec LedE 168 [l])] (Ty.int .i64 (leftM l t.toNat)) := by
  obtain ⟨n, rfl⟩ := Int.eq_ofNat_of_zero_le ht.1
  exact c_left l hl n (by omega)
theorem others_len {rec : Nat → List Bool → List Int × List Bool} {l : Led} {f t B : Nat} (hr : ∀ o m, (rec o m).1.length ≤ B) : ∀ (L : List Nat) (m : List Bool), (othersM rec l f t L m).1.length ≤ B
  | [], _ => Nat.zero_le _
  | o :: r, m => by
    rw [othersM]
    split
    · exact others_len hr r m
    · split
      · exact others_len hr r _
      · exact hr o m
theorem tos_len {rec : Nat → List Bool → List Int × List Bool} {l : Led} {f B : Nat} (hr : ∀ o m, (rec o m).1.length ≤ B) : ∀ (L : List Int) (m : List Bool), (tosM rec l f L m).1.length ≤ B + 2
  | [], _ => Nat.zero_le _
  | t :: r, m => by
    rw [tosM]
    split
    · exact tos_len hr r m
    · split
      · simp
      · split
        · exact tos_len hr r _
        · have := others_len (l := l) (f := f) (t := t.toNat) hr (List.range l.T) (m.set t.toNat true)
          simp only [List.length_cons]; omega
theorem way_len (l : Led) : ∀ (k f : Nat) (m : List Bool), (wayM l k f m).1.length ≤ 2 * k
  | 0, _, _ => Nat.zero_le _
  | k + 1, f, m => by
    have := tos_len (l := l) (f := f) (way_len l k) (tosOf l f) m
    rw [wayM]; omega
theorem rg_nsl_of {L : List Nat} {xs ys : List Int} (e : xs = ys) (h : xs ≠ []) : RetG L (Ty.sl I64 xs) (Ty.nsl I64 ys) := by subst e; exact rg_nsl_sl h
theorem c_tos (l : Led) (f : Nat) (h : nth l.w.1.before f < 256) : Ctr Try.prog 103 [Ty.int .i64 (nth l.w.1.before f : Nat)] (Ty.sl I64 (tosOf l f)) := c_members _ h
attribute [local irreducible] Led.P leftM LedE BrdE BoolE tosOf wayM
set_option maxRecDepth 100000 in
theorem c_wayf (l : Led) (hl : LOk l) (k f : Nat) (m : List Bool) (hf : f < l.T) (hm : m.length = 8) (hu : unm m < k) (hk : k ≤ 9) : CtrG Try.prog 161 [1000, 1001, 1002] (wayPre l m) [Ty.int .i64 (f : Nat), Ty.pp [Ty.ptr 1000 0], Ty.ptr 1001 0, Ty.ptr 1002 0] (wayPre l (wayM l k f m).2) (Ty.nsl I64 (wayM l k f m).1) := by
  induction k generalizing f m
  case zero => exact absurd hu (by omega)
  rename_i k ih
  refine fnG_intro Try.func161 rfl (by decide) Try.ntmps161 (by exact Nat.le_of_ble_eq_true rfl) fun w0 M0 => ?_
  have hb := hl.bay
  have hT8 : l.T ≤ 8 := hl.fine.nt
  have hbt := hl.fine.before f
  have htl : (tosOf l f).length ≤ 8 := by unfold tosOf; exact members_len _
  refine t_seq ?_
  refine t_region ?_
  refine asX rfl ?_
  refine r_nil ?_
  refine i_then ?_
  refine t_seq ?_
  refine t_seq ?_
  refine t_region ?_
  refine r_load_pp rfl rfl rfl rfl ?_
  refine r_nilCheck_ptr rfl ?_
  refine r_field_ptr rfl rfl rfl rfl rfl (by decide) ?_
  refine r_load_ob (ty := Ty.pe BrdE l.w 0) rfl rfl (by decide) rfl rfl (by unfold LedE; rfl) ?_
  refine mvI rfl ?_
  refine r_nilCheck_pe rfl ?_
  refine r_field_pe rfl rfl rfl rfl rfl (by decide) ?_
  refine r_index_pe rfl rfl rfl rfl rfl (by omega) ?_
  refine r_load_pe (ty := Ty.int .i64 (nth l.w.1.before f : Nat)) rfl rfl rfl (by show (BrdE.tys l.w)[0 + 4 + f * 1]? = _; rw [show 0 + 4 + f * 1 = 4 + f by omega]; unfold BrdE; exact brd_before l.w.2 (by omega)) ?_
  refine r_call (c_tos l f hbt) rfl rfl rfl rfl rfl ?_
  refine r_len rfl rfl rfl ?_
  refine mvI rfl ?_
  refine r_nil ?_
  refine i_then ?_
  refine t_block ?_
  refine t_loop (fun (x : TIx l k f m) => live [(0, Ty.int .i64 (f : Nat)), (1, Ty.pp [Ty.ptr 1000 0]), (2, Ty.ptr 1001 0), (3, Ty.ptr 1002 0), (19, Ty.sl I64 (tosOf l f)), (20, Ty.int .i64 (tosOf l f).length), (21, Ty.int .i64 (x.i : Nat))] [(1000, Cont.vec LedE 168 [l]), (1001, Cont.vec BoolE 185 x.met), (1002, Cont.cells 96 [Ty.clo 161 [Ty.pp [Ty.ptr 1000 0], Ty.ptr 1001 0, Ty.ptr 1002 0]])]) (fun x => (tosOf l f).length - x.i) (⟨0, m, by omega, hm, hu, rfl⟩) ?_ fun x => ?_
  · (refine Ent.mk' ?_ ?_ <;> (repeat' (first | exact allSub_zero | exact allTags_nil | refine allSub_succ' ?_ (Ty.sub_any _) | refine allSub_succ' ?_ (Ty.sub_refl _) | refine allTags_cons rfl (Cont.sub_refl _) ?_)))
  ·
    have hxl := x.len
    refine t_seq ?_
    refine t_region ?_
    refine r_bin rfl rfl rfl ?_
    refine r_nil ?_
    refine i_then ?_
    refine t_seq ?_
    refine t_cond_dec rfl (fun hc1 => ?_) (fun hc1 => ?_)
    ·
      refine t_skip ?_
      refine i_then ?_
      refine t_seq ?_
      refine t_block ?_
      refine t_seq ?_
      refine t_region ?_
      refine r_index_slN rfl rfl rfl rfl rfl rfl (by omega) ?_
      refine r_load_pp rfl rfl rfl rfl ?_
      refine asI rfl ?_
      refine r_nil ?_
      refine i_then ?_
      refine t_seq ?_
      refine t_seq ?_
      have ht := tos_lt8 (nth_mem (x.nat hc1))
      refine t_draw mixed rfl ?_
      refine r_load_pp rfl rfl rfl rfl ?_
      refine r_nilCheck_ptr rfl ?_
      refine r_field_ptr rfl rfl rfl rfl rfl (by decide) ?_
      refine r_load_ob (ty := Ty.pe BrdE l.w 0) rfl rfl (by decide) rfl rfl (by unfold LedE; rfl) ?_
      refine mvI rfl ?_
      refine r_load_pp rfl rfl rfl rfl ?_
      refine r_nilCheck_ptr rfl ?_
      refine r_field_ptr rfl rfl rfl rfl rfl (by decide) ?_
      refine r_load_ob (ty := Ty.int .i64 l.bay) rfl rfl (by decide) rfl rfl (by unfold LedE; rfl) ?_
      refine r_nilCheck_pe rfl ?_
      refine r_field_pe rfl rfl rfl rfl rfl (by decide) ?_
      refine r_index_peI (n := 8) rfl rfl rfl rfl rfl (by omega) (by omega) ?_
      refine r_index_pe rfl rfl rfl rfl rfl (by omega) ?_
      refine r_load_pe (ty := Ty.int .i64 (addB l.w l.bay (nth (tosOf l f) x.i).toNat)) rfl rfl rfl (bay_adds (by omega) hb (by show 0 + 12 + (nth (tosOf l f) x.i).toNat * 4 + l.bay * 1 = _; omega)) ?_
      refine r_bin rfl rfl rfl ?_
      refine mvB rfl ?_
      apply r_guard (s := 40) rfl rfl rfl
      · intro hg; apply opT_of; (refine mvI rfl ?_); refine r_nil ?_; exact rfl
      · exact rfl
      · exact rfl
      apply r_guard (s := 40) rfl rfl rfl
      · intro hg; apply opT_strip (s := 41) rfl (by (rw [hg]; rfl)); apply opT_of; (refine r_index_ptrI rfl rfl rfl rfl rfl (by omega) (by omega) ?_); refine r_nil ?_; exact rfl
      · exact rfl
      · exact rfl
      apply r_guard (s := 40) rfl rfl rfl
      · intro hg; apply opT_strip (s := 42) rfl (by (rw [hg]; rfl)); apply opT_of; (refine r_load_vecA (ty := Ty.bool (nth x.met (nth (tosOf l f) x.i).toNat)) (E := BoolE) rfl rfl (by unfold BoolE; rfl) (by decide) rfl rfl (by omega) (by unfold BoolE; rfl) ?_); refine r_nil ?_; exact rfl
      · exact rfl
      · exact rfl
      refine r_or rfl rfl ?_
      refine r_nil ?_
      refine ⟨by kernel_rfl, ?_⟩
      refine i_then ?_
      refine t_cond rfl (fun hc2 => ?_) (fun hc2 => ?_)
      ·
        refine t_exit ?_
        refine i_then_exit ?_
        refine i_block_exit rfl ?_
        refine i_then ?_
        refine t_region ?_
        refine r_add rfl rfl (by omega) (by omega) ?_
        refine mvI rfl ?_
        refine r_nil ?_
        refine i_round (by exact x.skip hc1 hc2) ?_ (by show (tosOf l f).length - (x.i + 1) < (tosOf l f).length - x.i; omega)
        (refine Ent.mk' ?_ ?_ <;> (repeat' (first | exact allSub_zero | exact allTags_nil | refine allSub_succ' ?_ (Ty.sub_any _) | refine allSub_succ' ?_ (Ty.sub_refl _) | refine allTags_cons rfl (Cont.sub_refl _) ?_)))
        all_goals skip
      ·
        refine t_skip ?_
        refine i_then ?_
        refine t_seq ?_
        refine t_region ?_
        refine mvI rfl ?_
        refine r_index_ptrI rfl rfl rfl rfl rfl (by omega) (by omega) ?_
        refine r_store_vecA (E := BoolE) (z := true) rfl rfl (by unfold BoolE; rfl) (by decide) rfl rfl rfl rfl (by omega) (by unfold BoolE; decide) rfl (by unfold BoolE; rfl) ?_
        refine r_nil ?_
        refine i_then ?_
        refine t_seq ?_
        refine t_seq ?_
        refine t_region ?_
        refine r_load_pp rfl rfl rfl rfl ?_
        refine mvI rfl ?_
        refine r_callG [(1000, 1000)] [] [(1000, Cont.vec LedE 168 [l])] (c_leftI l hl (nth (tosOf l f) x.i) ht) rfl rfl (by repeat (first | exact cv_nil | refine cv_cons ?_ ?_ | exact cv_ptr List.mem_cons_self | exact cv_pub rfl rfl)) (pre_cons (a := 1000) (b := 1000) (by exact List.mem_cons_self) rfl (cc_vec (by exact List.mem_cons_self) rfl) pre_nil) (post_cons (a := 1000) (b := 1000) (by exact List.mem_cons_self) rfl (cc_vec (by exact List.mem_cons_self) rfl) post_nil) (cv_pub rfl rfl) ?_
        refine r_bin rfl rfl rfl ?_
        refine r_nil ?_
        refine i_then ?_
        refine t_cond_dec rfl (fun hc3 => ?_) (fun hc3 => ?_)
        ·
          refine t_seq ?_
          refine t_region ?_
          refine mvI rfl ?_
          refine mvI rfl ?_
          refine r_buildSlice (E := I64) (xs := [_, _]) rfl rfl rfl rfl rfl (by decide) (by decide) (by repeat (first | exact (Parts.nil : Parts _ _ [] _) | (show Parts _ _ ((_, _) :: _) _; apply Parts.one; (· exact (rfl : _ = Ty.int _ _)); (· exact rfl)))) (by exact rfl) rfl ?_
          refine asS rfl ?_
          refine r_nil ?_
          refine i_then ?_
          refine t_ret ?_
          refine i_then_ret ?_
          refine i_block_ret ?_
          refine i_then_ret ?_
          refine i_then_ret ?_
          refine i_block_ret ?_
          refine i_then_ret ?_
          refine g_ret1 [1000, 1001, 1002] rfl rfl (by decide) ?_ ?_
          · exact way_rc rfl rfl rfl (congrArg Prod.snd (x.last hc1 hc2 hc3)).symm
          all_goals skip
          exact rg_nsl_of (congrArg Prod.fst (x.last hc1 hc2 hc3)).symm (by simp)
        ·
          refine t_skip ?_
          refine i_then ?_
          refine t_seq ?_
          have hun := x.un2 hc1 hc2
          refine t_region ?_
          refine r_load_pp rfl rfl rfl rfl ?_
          refine r_nilCheck_ptr rfl ?_
          refine r_field_ptr rfl rfl rfl rfl rfl (by decide) ?_
          refine r_load_ob (ty := Ty.pe BrdE l.w 0) rfl rfl (by decide) rfl rfl (by unfold LedE; rfl) ?_
          refine r_nilCheck_pe rfl ?_
          refine r_field_pe rfl rfl rfl rfl rfl (by decide) ?_
          refine r_field_pe rfl rfl rfl rfl rfl (by decide) ?_
          refine r_load_pe (ty := Ty.sl TrnE l.w.1.f.turnings) rfl rfl rfl (by unfold BrdE; rfl) ?_
          refine r_len rfl rfl rfl ?_
          refine mvI rfl ?_
          refine r_nil ?_
          refine i_then ?_
          refine t_block ?_
          refine t_loop (fun (y : OIx l k f (nth (tosOf l f) x.i).toNat (x.met.set (nth (tosOf l f) x.i).toNat true)) => live [(0, Ty.int .i64 (f : Nat)), (1, Ty.pp [Ty.ptr 1000 0]), (2, Ty.ptr 1001 0), (3, Ty.ptr 1002 0), (7, Ty.int .i64 (nth (tosOf l f) x.i)), (19, Ty.sl I64 (tosOf l f)), (20, Ty.int .i64 (tosOf l f).length), (21, Ty.int .i64 (x.i : Nat)), (62, Ty.int .i64 (l.T : Nat)), (63, Ty.int .i64 (y.i : Nat))] [(1000, Cont.vec LedE 168 [l]), (1001, Cont.vec BoolE 185 y.met), (1002, Cont.cells 96 [Ty.clo 161 [Ty.pp [Ty.ptr 1000 0], Ty.ptr 1001 0, Ty.ptr 1002 0]])]) (fun y => l.T - y.i) (⟨0, x.met.set (nth (tosOf l f) x.i).toNat true, by omega, by simp [hxl], hun, rfl⟩) ?_ fun y => ?_
          · (refine Ent.mk' ?_ ?_ <;> (repeat' (first | exact allSub_zero | exact allTags_nil | refine allSub_succ' ?_ (Ty.sub_any _) | refine allSub_succ' ?_ (Ty.sub_refl _) | refine allTags_cons rfl (Cont.sub_refl _) ?_)))
          ·
            have hyl := y.len
            refine t_seq ?_
            refine t_region ?_
            refine r_bin rfl rfl rfl ?_
            refine r_nil ?_
            refine i_then ?_
            refine t_seq ?_
            refine t_cond_dec rfl (fun hc4 => ?_) (fun hc4 => ?_)
            ·
              refine t_skip ?_
              refine i_then ?_
              refine t_seq ?_
              refine t_block ?_
              refine t_seq ?_
              refine t_region ?_
              refine mvI rfl ?_
              refine asI rfl ?_
              refine r_nil ?_
              refine i_then ?_
              refine t_seq ?_
              refine t_seq ?_
              refine t_region ?_
              refine mvI rfl ?_
              refine mvI rfl ?_
              refine r_bin rfl rfl rfl ?_
              refine mvB rfl ?_
              apply r_guard (s := 69) rfl rfl rfl
              · intro hg; apply opT_of; (refine r_load_pp rfl rfl rfl rfl ?_); refine r_nil ?_; exact rfl
              · exact rfl
              · exact rfl
              apply r_guard (s := 69) rfl rfl rfl
              · intro hg; apply opT_of; (refine mvI rfl ?_); refine r_nil ?_; exact rfl
              · exact rfl
              · exact rfl
              apply r_guard (s := 69) rfl rfl rfl
              · intro hg; apply opT_of; (refine mvI rfl ?_); refine r_nil ?_; exact rfl
              · exact rfl
              · exact rfl
              apply r_guard (s := 69) rfl rfl rfl
              · intro hg; apply opT_strip (s := 70) rfl (by (rw [hg]; rfl)); apply opT_of; (refine r_nilCheck_ptr rfl ?_); refine r_nil ?_; exact rfl
              · exact rfl
              · exact rfl
              apply r_guard (s := 69) rfl rfl rfl
              · intro hg; apply opT_strip (s := 73) rfl (by (rw [hg]; rfl)); apply opT_of; (refine r_field_ptr rfl rfl rfl rfl rfl (by decide) ?_); refine r_nil ?_; exact rfl
              · exact rfl
              · exact rfl
              apply r_guard (s := 69) rfl rfl rfl
              · intro hg; apply opT_strip (s := 74) rfl (by (rw [hg]; rfl)); apply opT_strip (s := 71) rfl (by (rw [hg]; rfl)); apply opT_of; (refine r_index_ptr rfl rfl rfl rfl rfl (by omega) ?_); refine r_nil ?_; exact rfl
              · exact rfl
              · exact rfl
              apply r_guard (s := 69) rfl rfl rfl
              · intro hg; apply opT_strip (s := 75) rfl (by (rw [hg]; rfl)); apply opT_strip (s := 72) rfl (by (rw [hg]; rfl)); apply opT_of; (refine r_index_ptrI rfl rfl rfl rfl rfl (by omega) (by omega) ?_); refine r_nil ?_; exact rfl
              · exact rfl
              · exact rfl
              apply r_guard (s := 69) rfl rfl rfl
              · intro hg; apply opT_strip (s := 76) rfl (by (rw [hg]; rfl)); apply opT_of; (refine r_load_ob (ty := Ty.int .i64 (l.P y.i (nth (tosOf l f) x.i).toNat)) rfl rfl (by decide) rfl rfl (led_at (by omega) (by omega) (by show 0 + 2 + y.i * 8 + (nth (tosOf l f) x.i).toNat * 1 = _; omega)) ?_); refine r_nil ?_; exact rfl
              · exact rfl
              · exact rfl
              apply r_guard (s := 69) rfl rfl rfl
              · intro hg; apply opT_strip (s := 77) rfl (by (rw [hg]; rfl)); apply opT_of; (refine r_bin rfl rfl rfl ?_); refine r_nil ?_; exact rfl
              · exact rfl
              · exact rfl
              refine r_or rfl rfl ?_
              refine r_nil ?_
              refine i_then ?_
              refine t_cond rfl (fun hc5 => ?_) (fun hc5 => ?_)
              ·
                refine t_exit ?_
                refine i_then_exit ?_
                refine i_block_exit rfl ?_
                refine i_then ?_
                refine t_region ?_
                refine r_add rfl rfl (by omega) (by omega) ?_
                refine mvI rfl ?_
                refine r_nil ?_
                refine i_round (by exact y.skip hc4 hc5) ?_ (by show l.T - (y.i + 1) < l.T - y.i; omega)
                (refine Ent.mk' ?_ ?_ <;> (repeat' (first | exact allSub_zero | exact allTags_nil | refine allSub_succ' ?_ (Ty.sub_any _) | refine allSub_succ' ?_ (Ty.sub_refl _) | refine allTags_cons rfl (Cont.sub_refl _) ?_)))
                all_goals skip
              ·
                refine t_skip ?_
                refine i_then ?_
                refine t_seq ?_
                refine t_region ?_
                refine r_load_ptr rfl rfl (by decide) rfl rfl rfl ?_
                refine mvI rfl ?_
                refine r_callvG [(1000, 1000), (1001, 1001), (1002, 1002)] [] (wayPre l (wayM l k y.i y.met).2) rfl (ih y.i y.met (by omega) y.len y.un (by omega)) rfl rfl (cv_cons (cv_cons (cv_cons (cv_cons cv_nil (cv_ptr (by decide))) (cv_ptr (by decide))) (cv_pp (cv_cons cv_nil (cv_ptr (by decide))))) (cv_pub rfl rfl)) (pre_cons (a := 1000) (b := 1000) (by decide) rfl (cc_vec (by decide) rfl) (pre_cons (a := 1001) (b := 1001) (by decide) rfl (cc_vec (by decide) rfl) (pre_cons (a := 1002) (b := 1002) (by decide) rfl (cc_cells (by decide) (clo_conv (by decide) (by decide) (by decide))) pre_nil))) (post_cons (a := 1000) (b := 1000) (by decide) rfl (cc_vec (by decide) rfl) (post_cons (a := 1001) (b := 1001) (by decide) rfl (cc_vec (by decide) rfl) (post_cons (a := 1002) (b := 1002) (by decide) rfl (cc_cells (by decide) (clo_conv (by decide) (by decide) (by decide))) post_nil))) (cv_pub rfl rfl) ?_
                refine asN rfl ?_
                refine r_nil ?_
                refine i_then ?_
                refine t_seq ?_
                refine t_region ?_
                refine mvN rfl ?_
                refine r_neqnilN und22 rfl ?_
                refine r_nil ?_
                refine i_then ?_
                refine t_cond rfl (fun hc6 => ?_) (fun hc6 => ?_)
                ·
                  refine t_seq ?_
                  have hwl := way_len l k y.i y.met
                  refine t_as (s := 9) rfl Ty.nsl_sl ?_
                  refine t_region ?_
                  refine mvI rfl ?_
                  refine mvI rfl ?_
                  refine r_buildRowN (E := I64) (xs := [(f : Int), nth (tosOf l f) x.i]) rfl rfl rfl rfl rfl (by decide) (by decide) (by repeat (first | exact (Parts.nil : Parts _ _ [] _) | (show Parts _ _ ((_, _) :: _) _; apply Parts.one; (· exact (rfl : _ = Ty.int _ _)); (· exact rfl)))) (by exact rfl) rfl rfl ?_
                  refine mvS rfl ?_
                  refine r_append rfl rfl (by decide) rfl rfl rfl rfl rfl rfl (by decide) (by (simp <;> omega)) (by (simp <;> omega)) ?_
                  refine asR rfl ?_
                  refine r_nil ?_
                  refine i_then ?_
                  refine t_ret ?_
                  refine i_block_ret ?_
                  refine i_then_ret ?_
                  refine i_then_ret ?_
                  refine i_block_ret ?_
                  refine i_block_ret ?_
                  refine i_then_ret ?_
                  refine i_then_ret ?_
                  refine i_block_ret ?_
                  refine i_then_ret ?_
                  refine g_ret1 [1000, 1001, 1002] rfl rfl (by decide) ?_ ?_
                  · exact way_rc rfl rfl rfl (congrArg Prod.snd (x.found hc1 hc2 hc3 y hc4 hc5 hc6)).symm
                  all_goals skip
                  exact rg_nsl_row (by decide) rfl (congrArg Prod.fst (x.found hc1 hc2 hc3 y hc4 hc5 hc6)).symm (by rw [x.found hc1 hc2 hc3 y hc4 hc5 hc6]; simp)
                ·
                  refine t_skip ?_
                  refine i_block ?_
                  refine i_then ?_
                  refine t_region ?_
                  refine r_add rfl rfl (by omega) (by omega) ?_
                  refine mvI rfl ?_
                  refine r_nil ?_
                  refine i_round (by exact y.go hc4 hc5 hc6) ?_ (by show l.T - (y.i + 1) < l.T - y.i; omega)
                  (refine Ent.mk' ?_ ?_ <;> (repeat' (first | exact allSub_zero | exact allTags_nil | refine allSub_succ' ?_ (Ty.sub_any _) | refine allSub_succ' ?_ (Ty.sub_refl _) | refine allTags_cons rfl (Cont.sub_refl _) ?_)))
                  all_goals skip
            ·
              refine t_exit ?_
              refine i_then_exit ?_
              refine i_then_exit ?_
              refine i_block_exit rfl ?_
              refine i_block ?_
              refine i_then ?_
              refine t_region ?_
              refine r_add rfl rfl (by omega) (by omega) ?_
              refine mvI rfl ?_
              refine r_nil ?_
              refine i_round (by exact x.go hc1 hc2 hc3 y hc4) ?_ (by show (tosOf l f).length - (x.i + 1) < (tosOf l f).length - x.i; omega)
              (refine Ent.mk' ?_ ?_ <;> (repeat' (first | exact allSub_zero | exact allTags_nil | refine allSub_succ' ?_ (Ty.sub_any _) | refine allSub_succ' ?_ (Ty.sub_refl _) | refine allTags_cons rfl (Cont.sub_refl _) ?_)))
              all_goals skip
    ·
      refine t_exit ?_
      refine i_then_exit ?_
      refine i_then_exit ?_
      refine i_block_exit rfl ?_
      refine i_then ?_
      refine t_seq ?_
      refine t_region ?_
      refine asX rfl ?_
      refine r_nil ?_
      refine i_then ?_
      refine t_ret ?_
      refine g_ret1 [1000, 1001, 1002] rfl rfl (by decide) ?_ ?_
      · exact way_rc rfl rfl rfl (congrArg Prod.snd (x.stop hc1)).symm
      all_goals skip
      exact rg_nsl_nil (congrArg Prod.fst (x.stop hc1))
end Go.Proofs.Ytifgbnbkimcchaa

namespace Go.Proofs.Ytifgbnbkimcchaa
open Go Go.T
set_option maxHeartbeats 2000000
attribute [local irreducible] dInt dBool dSl dPp dPtr dAgg dTup dClo dAny dEx dStr dGd dCells dVec dVs dRow dOp nth Tri Into TOps Ctr bodyPost Exit.then Exit.inBlock Code.wp Code.wpIn dWhen dPa dPe dAo dArr dMp dPm dMap dCJ CtrG CtrI OpY keepPost iterPost bodyPostM roundQ
theorem find_conv : Convs [(1000, 1000), (6, 1001), (7, 1002)] [Ty.clo 161 [Ty.pp [Ty.ptr 1000 0], Ty.ptr 6 0, Ty.ptr 7 0]] [Ty.clo 161 [Ty.pp [Ty.ptr 1000 0], Ty.ptr 1001 0, Ty.ptr 1002 0]] :=
  cv_cons cv_nil (cv_clo (cv_cons (cv_cons (cv_cons cv_nil (cv_ptr (by decide))) (cv_ptr (by decide))) (cv_pp (cv_cons cv_nil (cv_ptr (by decide))))))
attribute [local irreducible] Led.P LedE BrdE tosOf wayM
set_option maxRecDepth 100000 in
theorem c_find (l : Led) (hl : LOk l) (f : Nat) (hf : f < l.T) : CtrG Try.prog 150 [1000] [(1000, Cont.vec LedE 168 [l])] [Ty.ptr 1000 0, Ty.int .i64 (f : Nat)] [(1000, Cont.vec LedE 168 [l])] (Ty.nsl I64 (findM l f)) := by
  refine fnG_intro Try.func150 rfl (by decide) Try.ntmps150 (by exact Nat.le_of_ble_eq_true rfl) fun w0 M0 => ?_
  refine t_seq ?_
  refine t_region ?_
  refine r_box_one (by exact (rfl : _ = Ty.ptr _ _)) rfl ?_
  refine asX rfl ?_
  refine r_nil ?_
  refine i_then ?_
  refine t_seq ?_
  refine t_region ?_
  refine r_allocV (E := BoolE) (xs := List.replicate 8 false) rfl (by exact List.cons_ne_nil _ _) rfl rfl ?_
  refine r_nil ?_
  refine i_then ?_
  refine t_seq ?_
  refine t_region ?_
  refine r_alloc rfl (by exact List.cons_ne_nil _ _) rfl ?_
  refine r_nil ?_
  refine i_then ?_
  refine t_seq ?_
  refine t_region ?_
  refine r_makeFunc rfl ?_
  refine r_store1 rfl rfl (by decide) rfl rfl (by exact (rfl : _ = Ty.clo _ _)) rfl (by exact Nat.le_of_ble_eq_true rfl) rfl rfl (by exact (rfl : _ = [_])) ?_
  refine r_nil ?_
  refine i_then ?_
  refine t_seq ?_
  refine t_region ?_
  refine r_load_ptr rfl rfl (by decide) rfl rfl rfl ?_
  refine mvI rfl ?_
  refine r_callvG [(1000, 1000), (6, 1001), (7, 1002)] [] [(1000, Cont.vec LedE 168 [l]), (6, Cont.vec BoolE 185 (wayM l 9 f (List.replicate 8 false)).2)] rfl (c_wayf l hl 9 f (List.replicate 8 false) hf (by simp) (by rw [unm_start]; omega) (by omega)) rfl rfl (cv_cons (cv_cons (cv_cons (cv_cons cv_nil (cv_ptr (by decide))) (cv_ptr (by decide))) (cv_pp (cv_cons cv_nil (cv_ptr (by decide))))) (cv_pub rfl rfl)) (pre_cons (a := 1000) (b := 1000) (by decide) rfl (cc_vec (by decide) rfl) (pre_cons (a := 6) (b := 1001) (by decide) rfl (cc_vec (by decide) rfl) (pre_cons (a := 7) (b := 1002) (by decide) rfl (cc_cells (by decide) find_conv) pre_nil))) (post_cons (a := 1000) (b := 1000) (by decide) rfl (cc_vec (by decide) rfl) (post_cons (a := 6) (b := 1001) (by decide) rfl (cc_vec (by decide) rfl) post_nil)) (cv_pub rfl rfl) ?_
  refine asN rfl ?_
  refine r_nil ?_
  refine i_then ?_
  refine t_ret ?_
  refine g_ret1 [1000] rfl rfl (by decide) (by repeat (first | exact rc_nil | refine rc_cons rfl (cc_vec (by decide) rfl) ?_)) ?_
  all_goals exact rg_cv (cv_pub rfl rfl)
  all_goals exact rg_nsl rfl
end Go.Proofs.Ytifgbnbkimcchaa

namespace Go.Proofs.Ytifgbnbkimcchaa
open Go Go.T
structure PIx (f : Flr) (bay u : Nat) (l0 : Led) where
  fuel : Nat
  led : Led
  n : Int
  inv : LInv f bay led
  same : payF u (addB (boardsOf f) bay u).toNat l0 (addB (boardsOf f) bay u) = payF u fuel led n
  le : n ≤ (fuel : Int)
  p1 : 0 < addB (boardsOf f) bay u → n + led.row u = addB (boardsOf f) bay u ∧ 0 ≤ n
  p2 : addB (boardsOf f) bay u ≤ 0 → n ≤ 0
def PIx.start {f : Flr} {bay u : Nat} {l0 : Led} (hi : LInv f bay l0) (hr : l0.row u = 0) : PIx f bay u l0 :=
  ⟨(addB (boardsOf f) bay u).toNat, l0, addB (boardsOf f) bay u, hi, rfl, by omega, fun h => ⟨by rw [hr]; omega, by omega⟩, fun h => h⟩
section
variable {f : Flr} {bay u : Nat} {l0 : Led} (x : PIx f bay u l0)
theorem PIx.stop1 (h : ¬ 0 < x.n) : payF u (addB (boardsOf f) bay u).toNat l0 (addB (boardsOf f) bay u) = x.led := by
  rw [x.same]
  cases hf : x.fuel with
  | zero => rfl
  | succ k => rw [payF, if_pos (by omega)]
theorem PIx.stop2 (h : 0 < x.n) (he : findM x.led u = []) : payF u (addB (boardsOf f) bay u).toNat l0 (addB (boardsOf f) bay u) = x.led := by
  have := x.le
  rw [x.same]
  obtain ⟨k, hk⟩ : ∃ k, x.fuel = k + 1 := ⟨x.fuel - 1, by omega⟩
  rw [hk, payF, if_neg (by omega), if_pos he]
structure PathF (l : Led) (u : Nat) (p : List Int) (K : Nat) : Prop where
  way : WayF l u p K
  le : K ≤ 9
  F8 : ∀ j, j < K → wF p j < 8 ∧ wF p j < l.T
  T8 : ∀ j, j < K → wT p j < 8
  len : p.length = 2 * K
  half : p.length / 2 = K
  evn : ∀ i, i < p.length → 0 ≤ nth p i ∧ nth p i < 8
theorem others_len0 {rec : Nat → List Bool → List Int × List Bool} {l : Led} {f t B : Nat} (hr : ∀ o m, (rec o m).1.length ≤ B) : ∀ (L : List Nat) (m : List Bool), (othersM rec l f t L m).1.length ≤ B
  | [], _ => Nat.zero_le _
  | o :: r, m => by
    rw [othersM]
    split
    · exact others_len0 hr r m
    · split
      · exact others_len0 hr r _
      · exact hr o m
theorem tos_len0 {rec : Nat → List Bool → List Int × List Bool} {l : Led} {f B : Nat} (hr : ∀ o m, (rec o m).1.length ≤ B) : ∀ (L : List Int) (m : List Bool), (tosM rec l f L m).1.length ≤ B + 2
  | [], _ => Nat.zero_le _
  | t :: r, m => by
    rw [tosM]
    split
    · exact tos_len0 hr r m
    · split
      · simp
      · split
        · exact tos_len0 hr r _
        · have := others_len0 (l := l) (f := f) (t := t.toNat) hr (List.range l.T) (m.set t.toNat true)
          simp only [List.length_cons]; omega
theorem way_len0 (l : Led) : ∀ (k f : Nat) (m : List Bool), (wayM l k f m).1.length ≤ 2 * k
  | 0, _, _ => Nat.zero_le _
  | k + 1, f, m => by
    have := tos_len0 (l := l) (f := f) (way_len0 l k) (tosOf l f) m
    rw [wayM]; omega
theorem path_facts (h : checkP f = 0) (hu : u < f.turnings.length) {l : Led} (hi : LInv f bay l) (he : findM l u ≠ []) : ∃ K, PathF l u (findM l u) K := by
  obtain ⟨K, hw, _⟩ := way_facts (find_way he)
  have hT8 : l.T ≤ 8 := by rw [inv_T hi]; exact nt8 h
  have hlen := way_len0 l 9 u (List.replicate 8 false)
  have hl2 := hw.len
  have hlen' : (findM l u).length ≤ 2 * 9 := hlen
  have hFT : ∀ j, j < K → wF (findM l u) j < l.T := fun j hj => by
    cases j with
    | zero => rw [hw.first, inv_T hi]; exact hu
    | succ j => exact (hw.step j hj).1
  have hT : ∀ j, j < K → wT (findM l u) j < 8 := fun j hj => (tos_lt (hw.tos j hj).1).1
  refine ⟨K, hw, by omega, fun j hj => ⟨by have := hFT j hj; omega, hFT j hj⟩, hT, hl2, by omega, fun i hi' => ?_⟩
  obtain ⟨j, hj⟩ : ∃ j, i = 2 * j ∨ i = 2 * j + 1 := ⟨i / 2, by omega⟩
  rcases hj with rfl | rfl
  · have e := hw.nat j (by omega)
    have := hFT j (by omega)
    rw [e]; omega
  · have := hw.tos j (by omega)
    have := tos_lt this.1
    omega
def PIx.next (h : checkP f = 0) (hu : u < f.turnings.length) (hn : 0 < x.n) (he : findM x.led u ≠ []) : PIx f bay u l0 := by
  refine ⟨x.fuel - 1, augUp x.led (findM x.led u) (muchM x.led (findM x.led u) x.n) ((findM x.led u).length / 2), x.n - muchM x.led (findM x.led u) x.n, ?_, ?_, ?_, ?_, ?_⟩
  all_goals
    have hp : 0 < addB (boardsOf f) bay u := by
      rcases Int.lt_or_le 0 (addB (boardsOf f) bay u) with hx | hx
      · exact hx
      · exact absurd (x.p2 hx) (by omega)
    obtain ⟨g1, g2⟩ := x.p1 hp
    have hle := x.le
    obtain ⟨K, hw⟩ := path_facts h hu x.inv he
    have ha := aug_inv h x.inv (by rw [inv_T x.inv]; exact hu) (n := x.n) (by omega) (by rw [inv_add x.inv]; show x.n + x.led.row u ≤ _; omega) hw.way
    rw [← hw.half] at ha
    have ho := ha.one
    have hl := ha.le
  · exact ha.inv
  · rw [x.same]
    obtain ⟨k, hk⟩ : ∃ k, x.fuel = k + 1 := ⟨x.fuel - 1, by omega⟩
    rw [hk, payF, if_neg (by omega), if_neg he]; rfl
  · omega
  · intro _
    have hr := ha.row u
    rw [if_pos rfl] at hr
    have hr' : (augUp x.led (findM x.led u) (muchM x.led (findM x.led u) x.n) ((findM x.led u).length / 2)).row u = x.led.row u + muchM x.led (findM x.led u) x.n := hr
    rw [hr']; omega
  · intro hx; omega
theorem PIx.much (h : checkP f = 0) (hu : u < f.turnings.length) (hn : 0 < x.n) (he : findM x.led u ≠ []) : 1 ≤ muchM x.led (findM x.led u) x.n ∧ muchM x.led (findM x.led u) x.n ≤ x.n ∧ x.n ≤ 1200 := by
  have hp : 0 < addB (boardsOf f) bay u := by
    rcases Int.lt_or_le 0 (addB (boardsOf f) bay u) with hx | hx
    · exact hx
    · exact absurd (x.p2 hx) (by omega)
  obtain ⟨g1, g2⟩ := x.p1 hp
  obtain ⟨K, hw⟩ := path_facts h hu x.inv he
  have ha := aug_inv h x.inv (by rw [inv_T x.inv]; exact hu) (n := x.n) (by omega) (by rw [inv_add x.inv]; show x.n + x.led.row u ≤ _; omega) hw.way
  have hb := addB_bound (boardsOf_fine h) bay u
  have h8 := nt8 h
  have hr := sm_nonneg (g := fun t => x.led.P u t) 8 fun t ht => x.inv.nn u t (by omega) ht
  have hr' : 0 ≤ x.led.row u := hr
  exact ⟨ha.one, ha.le, by omega⟩
end
theorem aug_bound {l : Led} (hl : LOk l) {u : Nat} {p : List Int} {K : Nat} (hp : PathF l u p K) {m : Int} (hm : 1 ≤ m ∧ m ≤ 1200) {k : Nat} (hk : k ≤ K) {o t : Nat} (ho : o < 8) (ht : t < 8) : -30000 ≤ (augUp l p m k).P o t ∧ (augUp l p m k).P o t ≤ 30000 := by
  have e := aug_P hl.len (fun j hj => (hp.F8 j hj).1) (fun j hj => hp.T8 j hj) m (o := o) ht k hk
  have h1 := sm_bound (g := ups p m o t) (B := 1200) k fun i _ => by unfold ups; split <;> omega
  have h2 := sm_bound (g := downs p m o t) (B := 1200) k fun i _ => by unfold downs; split <;> omega
  have h3 := hl.nn o t ho ht
  have := hp.le
  rw [e]; omega
theorem path_at {p : List Int} (j : Nat) : (nth p (2 + 2 * j)).toNat = wF p (j + 1) ∧ (nth p (2 * j)).toNat = wF p j ∧ (nth p (2 * j + 1)).toNat = wT p j := ⟨by unfold wF; rw [show 2 * (j + 1) = 2 + 2 * j by omega], rfl, rfl⟩
end Go.Proofs.Ytifgbnbkimcchaa

namespace Go.Proofs.Ytifgbnbkimcchaa
open Go Go.T
set_option maxHeartbeats 2000000
attribute [local irreducible] dInt dBool dSl dPp dPtr dAgg dTup dClo dAny dEx dStr dGd dCells dVec dVs dRow dOp nth Tri Into TOps Ctr bodyPost Exit.then Exit.inBlock Code.wp Code.wpIn dWhen dPa dPe dAo dArr dMp dPm dMap dCJ CtrG CtrI OpY keepPost iterPost bodyPostM roundQ
theorem least_one (n a : Int) : leastM n [a] = min n a := rfl
theorem led_add' {l : Led} (hl : l.paid.length = 64) {o t off : Nat} (ho : o < 8) (ht : t < 8) (e : off = 2 + (o * 8 + t)) {m v : Int} (hv : v = l.P o t + m) : (LedE.tys l).set off (Ty.int .i64 v) = LedE.tys (addP l o t m) := by
  subst e; subst hv; exact led_add hl ho ht m
theorem aug_zero {l : Led} {p : List Int} {m : Int} {k : Nat} (h : ¬ 0 < k) : addP (augUp l p m k) (wF p k) (wT p k) m = augUp l p m (k + 1) := by rw [augUp, if_neg h]
theorem aug_more {l : Led} {p : List Int} {m : Int} {k : Nat} (h : 0 < k) : addP (addP (augUp l p m k) (wF p k) (wT p k) m) (wF p k) (wT p (k - 1)) (-m) = augUp l p m (k + 1) := by rw [augUp, if_pos h]
theorem addP_P {l : Led} (hl : l.paid.length = 64) {o t o' t' : Nat} (ho : o < 8) (ht : t < 8) (ht' : t' < 8) (m : Int) : (addP l o t m).P o' t' = l.P o' t' ∨ (addP l o t m).P o' t' = l.P o' t' + m := by
  rw [P_addP hl ho ht ht']; split
  · exact .inr rfl
  · exact .inl (Int.add_zero _)
theorem mu_zero (l : Led) (p : List Int) (n : Int) (K : Nat) : muchUp l p n K 0 = min n (leftM l (wT p (K - 1))) := rfl
theorem mu_succ (l : Led) (p : List Int) (n : Int) (K k : Nat) : muchUp l p n K (k + 1) = min (muchUp l p n K k) (l.P (wF p (k + 1)) (wT p k)) := rfl
theorem aug_start (l : Led) (p : List Int) (m : Int) : augUp l p m 0 = l := rfl
theorem muchM_eq (l : Led) (p : List Int) (n : Int) : muchM l p n = muchUp l p n (p.length / 2) (p.length / 2 - 1) := rfl
theorem addP_len (l : Led) (o t : Nat) (m : Int) : (addP l o t m).paid.length = l.paid.length := by show (List.set _ _ _).length = _; rw [List.length_set]
attribute [local irreducible] Led.P LedE BrdE tosOf wayM findM augUp addP muchUp muchM leftM wF wT
set_option maxRecDepth 100000 in
theorem c_pay (f : Flr) (h : checkP f = 0) (bay : Nat) (hb : bay < f.bears.length) (l : Led) (hi : LInv f bay l) (u : Nat) (hu : u < f.turnings.length) (hr : l.row u = 0) : CtrG Try.prog 116 [1000] [(1000, Cont.vec LedE 168 [l])] [Ty.ptr 1000 0, Ty.int .i64 (u : Nat)] [(1000, Cont.vec LedE 168 [payF u (addB (boardsOf f) bay u).toNat l (addB (boardsOf f) bay u)])] (Ty.tup []) := by
  refine fnG_intro Try.func116 rfl (by decide) Try.ntmps116 (by exact Nat.le_of_ble_eq_true rfl) fun w0 M0 => ?_
  have h8 := nt8 h
  have hlk := inv_ok h hb hi
  have hbay := hlk.bay
  have hadd : addB l.w l.bay u = addB (boardsOf f) bay u := by rw [hi.w, hi.bay]
  refine t_seq ?_
  refine t_draw mixed rfl ?_
  refine mvO rfl ?_
  refine r_nilCheck_ptr rfl ?_
  refine r_field_ptr rfl rfl rfl rfl rfl (by decide) ?_
  refine r_load_ob (ty := Ty.pe BrdE l.w 0) rfl rfl (by decide) rfl rfl (by unfold LedE; rfl) ?_
  refine mvI rfl ?_
  refine mvO rfl ?_
  refine r_nilCheck_ptr rfl ?_
  refine r_field_ptr rfl rfl rfl rfl rfl (by decide) ?_
  refine r_load_ob (ty := Ty.int .i64 l.bay) rfl rfl (by decide) rfl rfl (by unfold LedE; rfl) ?_
  refine r_nilCheck_pe rfl ?_
  refine r_field_pe rfl rfl rfl rfl rfl (by decide) ?_
  refine r_index_pe rfl rfl rfl rfl rfl (by omega) ?_
  refine r_index_pe rfl rfl rfl rfl rfl (by omega) ?_
  refine r_load_pe (ty := Ty.int .i64 (addB l.w l.bay u)) rfl rfl rfl (bay_adds (by omega) hbay (by show 0 + 12 + u * 4 + l.bay * 1 = _; omega)) ?_
  refine asI rfl ?_
  refine r_nil ?_
  refine ⟨by kernel_rfl, ?_⟩
  refine i_then ?_
  refine t_block ?_
  refine t_loop (fun (x : PIx f bay u l) => live [(0, Ty.ptr 1000 0), (1, Ty.int .i64 (u : Nat)), (4, Ty.int .i64 x.n)] [(1000, Cont.vec LedE 168 [x.led])]) (fun x => x.fuel) (PIx.start hi hr) ?_ fun x => ?_
  · (refine Ent.mk' ?_ ?_ <;> (repeat' (first | exact allSub_zero | exact allTags_nil | refine allSub_succ' ?_ (Ty.sub_any _) | refine allSub_succ' ?_ (Ty.sub_refl _) | refine allTags_cons rfl (Cont.sub_refl _) ?_ | refine allSub_succ' ?_ ?_)))
    all_goals exact Ty.sub_int hadd
  ·
    have hxk := inv_ok h hb x.inv
    have hxT : u < x.led.T := by rw [inv_T x.inv]; exact hu
    refine t_seq ?_
    refine t_seq ?_
    refine t_region ?_
    refine mvI rfl ?_
    refine r_bin rfl rfl rfl ?_
    refine r_nil ?_
    refine i_then ?_
    refine t_cond_dec rfl (fun hc1 => ?_) (fun hc1 => ?_)
    ·
      refine t_skip ?_
      refine i_then ?_
      refine t_block ?_
      refine t_seq ?_
      refine t_region ?_
      refine mvO rfl ?_
      refine mvI rfl ?_
      refine r_callG [(1000, 1000)] [] [(1000, Cont.vec LedE 168 [x.led])] (c_find x.led hxk u hxT) rfl rfl (by repeat (first | exact cv_nil | refine cv_cons ?_ ?_ | exact cv_ptr List.mem_cons_self | exact cv_pub rfl rfl)) (pre_cons (a := 1000) (b := 1000) (by exact List.mem_cons_self) rfl (cc_vec (by exact List.mem_cons_self) rfl) pre_nil) (post_cons (a := 1000) (b := 1000) (by exact List.mem_cons_self) rfl (cc_vec (by exact List.mem_cons_self) rfl) post_nil) (cv_pub rfl rfl) ?_
      refine asN rfl ?_
      refine r_nil ?_
      refine i_then ?_
      refine t_seq ?_
      refine t_seq ?_
      refine t_region ?_
      refine mvN rfl ?_
      refine r_eqnilN und22 rfl ?_
      refine r_nil ?_
      refine i_then ?_
      refine t_cond rfl (fun hc2 => ?_) (fun hc2 => ?_)
      ·
        refine t_ret ?_
        refine i_then_ret ?_
        refine i_block_ret ?_
        refine i_then_ret ?_
        refine i_block_ret ?_
        refine g_ret0 [1000] rfl (by decide) ?_
        exact rc_cons rfl (cc_vec (by decide) (congrArg (fun l => [l]) (x.stop2 hc1 (by simpa using hc2)).symm)) rc_nil
      ·
        refine t_skip ?_
        refine i_then ?_
        refine t_seq ?_
        have hne : findM x.led u ≠ [] := by simpa using hc2
        obtain ⟨K, hp⟩ := path_facts h hu x.inv hne
        obtain ⟨hm1, hm2, hm3⟩ := x.much h hu hc1 hne
        obtain ⟨p, hpe⟩ : ∃ p, p = findM x.led u := ⟨_, rfl⟩
        obtain ⟨m, hme⟩ : ∃ m, m = muchM x.led (findM x.led u) x.n := ⟨_, rfl⟩
        rw [← hme] at hm1 hm2
        rw [← hpe] at hp
        have hK1 := hp.way.one
        have hK9 := hp.le
        have hpl := hp.len
        have hev := hp.evn
        have e0 : (nth p ((p.length : Int) - 1).toNat).toNat = wT p (K - 1) := by rw [← (path_at (p := p) (K - 1)).2.2, show ((p.length : Int) - 1).toNat = 2 * (K - 1) + 1 by omega]
        refine t_as (s := 5) (ty' := Ty.sl I64 p) rfl (by rw [hpe]; exact Ty.nsl_sl) ?_
        refine t_region ?_
        refine mvI rfl ?_
        refine mvO rfl ?_
        refine mvS rfl ?_
        refine mvS rfl ?_
        refine r_len rfl rfl rfl ?_
        refine r_sub rfl rfl (by omega) (by omega) ?_
        refine r_index_sl rfl rfl rfl rfl rfl rfl (by omega) (by omega) ?_
        refine r_load_pp rfl rfl rfl rfl ?_
        refine r_callG [(1000, 1000)] [] [(1000, Cont.vec LedE 168 [x.led])] (c_leftI x.led hxk (nth p ((p.length : Int) - 1).toNat) (hev _ (by omega))) rfl rfl (by repeat (first | exact cv_nil | refine cv_cons ?_ ?_ | exact cv_ptr List.mem_cons_self | exact cv_pub rfl rfl)) (pre_cons (a := 1000) (b := 1000) (by exact List.mem_cons_self) rfl (cc_vec (by exact List.mem_cons_self) rfl) pre_nil) (post_cons (a := 1000) (b := 1000) (by exact List.mem_cons_self) rfl (cc_vec (by exact List.mem_cons_self) rfl) post_nil) (cv_pub rfl rfl) ?_
        refine r_buildSlice (E := I64) (xs := [_]) rfl rfl rfl rfl rfl (by decide) (by decide) (by repeat (first | exact (Parts.nil : Parts _ _ [] _) | (show Parts _ _ ((_, _) :: _) _; apply Parts.one; (· exact (rfl : _ = Ty.int _ _)); (· exact rfl)))) (by exact rfl) rfl ?_
        refine r_call (c_least _ _) rfl rfl rfl rfl rfl ?_
        refine asI rfl ?_
        refine r_nil ?_
        refine i_then ?_
        refine t_seq ?_
        refine t_seq ?_
        refine t_region ?_
        refine asI rfl ?_
        refine r_nil ?_
        refine i_then ?_
        refine t_block ?_
        refine t_loop (fun (k : {k : Nat // k ≤ K - 1}) => live [(0, Ty.ptr 1000 0), (1, Ty.int .i64 (u : Nat)), (4, Ty.int .i64 x.n), (5, Ty.sl I64 p), (6, Ty.int .i64 (muchUp x.led p x.n K k.1)), (7, Ty.int .i64 ((2 + 2 * k.1 : Nat) : Int))] [(1000, Cont.vec LedE 168 [x.led])]) (fun k => K - 1 - k.1) (⟨0, by omega⟩) ?_ fun k => ?_
        · (refine Ent.mk' ?_ ?_ <;> (repeat' (first | exact allSub_zero | exact allTags_nil | refine allSub_succ' ?_ (Ty.sub_any _) | refine allSub_succ' ?_ (Ty.sub_refl _) | refine allTags_cons rfl (Cont.sub_refl _) ?_ | refine allSub_succ' ?_ ?_)))
          all_goals exact Ty.sub_int (by rw [least_one, e0]; exact (mu_zero _ _ _ _).symm)
        ·
          have hk := k.2
          refine t_seq ?_
          refine t_seq ?_
          refine t_region ?_
          refine mvI rfl ?_
          refine mvS rfl ?_
          refine r_len rfl rfl rfl ?_
          refine r_bin rfl rfl rfl ?_
          refine r_nil ?_
          refine i_then ?_
          refine t_cond_dec rfl (fun hc3 => ?_) (fun hc3 => ?_)
          ·
            refine t_skip ?_
            refine i_then ?_
            refine t_seq ?_
            refine t_block ?_
            have e1 := (path_at (p := p) k.1).1
            have e2 : (nth p (((2 + 2 * k.1 : Nat) : Int) - 1).toNat).toNat = wT p k.1 := by rw [← (path_at (p := p) k.1).2.2, show (((2 + 2 * k.1 : Nat) : Int) - 1).toNat = 2 * k.1 + 1 by omega]
            have hv1 := hev (2 + 2 * k.1) (by omega)
            have hv2 := hev (((2 + 2 * k.1 : Nat) : Int) - 1).toNat (by omega)
            refine t_draw mixed rfl ?_
            refine mvI rfl ?_
            refine mvO rfl ?_
            refine mvS rfl ?_
            refine mvI rfl ?_
            refine r_index_slN rfl rfl rfl rfl rfl rfl (by omega) ?_
            refine r_load_pp rfl rfl rfl rfl ?_
            refine mvS rfl ?_
            refine mvI rfl ?_
            refine r_sub rfl rfl (by omega) (by omega) ?_
            refine r_index_sl rfl rfl rfl rfl rfl rfl (by omega) (by omega) ?_
            refine r_load_pp rfl rfl rfl rfl ?_
            refine r_nilCheck_ptr rfl ?_
            refine r_field_ptr rfl rfl rfl rfl rfl (by decide) ?_
            refine r_index_ptrI rfl rfl rfl rfl rfl (by omega) (by omega) ?_
            refine r_index_ptrI rfl rfl rfl rfl rfl (by omega) (by omega) ?_
            refine r_load_ob (ty := Ty.int .i64 (x.led.P (wF p (k.1 + 1)) (wT p k.1))) rfl rfl (by decide) rfl rfl (led_at (by omega) (by omega) (by show 0 + 2 + (nth p (2 + 2 * k.1)).toNat * 8 + (nth p (((2 + 2 * k.1 : Nat) : Int) - 1).toNat).toNat * 1 = _; rw [e1, e2]; omega)) ?_
            refine r_buildSlice (E := I64) (xs := [_]) rfl rfl rfl rfl rfl (by decide) (by decide) (by repeat (first | exact (Parts.nil : Parts _ _ [] _) | (show Parts _ _ ((_, _) :: _) _; apply Parts.one; (· exact (rfl : _ = Ty.int _ _)); (· exact rfl)))) (by exact rfl) rfl ?_
            refine r_call (c_least _ _) rfl rfl rfl rfl rfl ?_
            refine asI rfl ?_
            refine r_nil ?_
            refine ⟨by kernel_rfl, ?_⟩
            refine i_block ?_
            refine i_then ?_
            refine t_region ?_
            refine mvI rfl ?_
            refine r_add rfl rfl (by omega) (by omega) ?_
            refine asI rfl ?_
            refine r_nil ?_
            refine i_round (⟨k.1 + 1, by omega⟩) ?_ (by show K - 1 - (k.1 + 1) < K - 1 - k.1; omega)
            (refine Ent.mk' ?_ ?_ <;> (repeat' (first | exact allSub_zero | exact allTags_nil | refine allSub_succ' ?_ (Ty.sub_any _) | refine allSub_succ' ?_ (Ty.sub_refl _) | refine allTags_cons rfl (Cont.sub_refl _) ?_ | refine allSub_succ' ?_ ?_)))
            all_goals skip
            all_goals exact Ty.sub_int (by rw [least_one]; exact (mu_succ _ _ _ _ _).symm)
          ·
            refine t_exit ?_
            refine i_then_exit ?_
            refine i_then_exit ?_
            refine i_block_exit rfl ?_
            refine i_then ?_
            refine t_seq ?_
            refine t_seq ?_
            have hmu : muchUp x.led p x.n K k.1 = m := by rw [hme, ← hpe, muchM_eq, hp.half, show k.1 = K - 1 by omega]
            refine t_as (s := 6) (ty' := Ty.int .i64 m) rfl (Ty.sub_int hmu) ?_
            refine t_region ?_
            refine asI rfl ?_
            refine r_nil ?_
            refine i_then ?_
            refine t_block ?_
            refine t_loop (fun (k : {k : Nat // k ≤ K}) => live [(0, Ty.ptr 1000 0), (1, Ty.int .i64 (u : Nat)), (4, Ty.int .i64 x.n), (5, Ty.sl I64 p), (6, Ty.int .i64 m), (8, Ty.int .i64 ((2 * k.1 : Nat) : Int))] [(1000, Cont.vec LedE 168 [augUp x.led p m k.1])]) (fun k => K - k.1) (⟨0, by omega⟩) ?_ fun k => ?_
            · (refine Ent.mk' ?_ ?_ <;> (repeat' (first | exact allSub_zero | exact allTags_nil | refine allSub_succ' ?_ (Ty.sub_any _) | refine allSub_succ' ?_ (Ty.sub_refl _) | refine allTags_cons rfl ?_ ?_)))
              all_goals exact Cont.sub_vec (congrArg (fun l => [l]) (aug_start _ _ _).symm)
            ·
              have hk := k.2
              have hal : (augUp x.led p m k.1).paid.length = 64 := (aug_same x.led p m k.1).2.2.trans hxk.len
              refine t_seq ?_
              refine t_seq ?_
              refine t_region ?_
              refine mvI rfl ?_
              refine mvS rfl ?_
              refine r_len rfl rfl rfl ?_
              refine r_bin rfl rfl rfl ?_
              refine r_nil ?_
              refine i_then ?_
              refine t_cond_dec rfl (fun hc4 => ?_) (fun hc4 => ?_)
              ·
                refine t_skip ?_
                refine i_then ?_
                refine t_seq ?_
                refine t_block ?_
                refine t_seq ?_
                have e1 := (path_at (p := p) k.1).2.1
                have e2 : (nth p (((2 * k.1 : Nat) : Int) + 1).toNat).toNat = wT p k.1 := by rw [← (path_at (p := p) k.1).2.2, show (((2 * k.1 : Nat) : Int) + 1).toNat = 2 * k.1 + 1 by omega]
                have hv1 := hev (2 * k.1) (by omega)
                have hv2 := hev (((2 * k.1 : Nat) : Int) + 1).toNat (by omega)
                have hab := aug_bound hxk hp (m := m) ⟨hm1, by omega⟩ (k := k.1) (by omega) (o := wF p k.1) (t := wT p k.1) (by omega) (by omega)
                refine t_draw mixed rfl ?_
                refine mvO rfl ?_
                refine mvS rfl ?_
                refine mvI rfl ?_
                refine r_index_slN rfl rfl rfl rfl rfl rfl (by omega) ?_
                refine r_load_pp rfl rfl rfl rfl ?_
                refine mvS rfl ?_
                refine mvI rfl ?_
                refine r_add rfl rfl (by omega) (by omega) ?_
                refine r_index_sl rfl rfl rfl rfl rfl rfl (by omega) (by omega) ?_
                refine r_load_pp rfl rfl rfl rfl ?_
                refine r_nilCheck_ptr rfl ?_
                refine r_field_ptr rfl rfl rfl rfl rfl (by decide) ?_
                refine r_index_ptrI rfl rfl rfl rfl rfl (by omega) (by omega) ?_
                refine r_index_ptrI rfl rfl rfl rfl rfl (by omega) (by omega) ?_
                refine r_load_ob (ty := Ty.int .i64 ((augUp x.led p m k.1).P (wF p k.1) (wT p k.1))) rfl rfl (by decide) rfl rfl (led_at (by omega) (by omega) (by show 0 + 2 + (nth p (2 * k.1)).toNat * 8 + (nth p (((2 * k.1 : Nat) : Int) + 1).toNat).toNat * 1 = _; rw [e1, e2]; omega)) ?_
                refine mvI rfl ?_
                refine r_add rfl rfl (by omega) (by omega) ?_
                refine r_nilCheck_ptr rfl ?_
                refine r_field_ptr rfl rfl rfl rfl rfl (by decide) ?_
                refine r_index_ptrI rfl rfl rfl rfl rfl (by omega) (by omega) ?_
                refine r_index_ptrI rfl rfl rfl rfl rfl (by omega) (by omega) ?_
                refine r_store_ob (z := addP (augUp x.led p m k.1) (wF p k.1) (wT p k.1) m) rfl rfl (by decide) rfl rfl rfl rfl (by unfold LedE; show 0 + 2 + (nth p (2 * k.1)).toNat * 8 + (nth p (((2 * k.1 : Nat) : Int) + 1).toNat).toNat * 1 < 66; omega) rfl (led_add' hal (by omega) (by omega) (by show 0 + 2 + (nth p (2 * k.1)).toNat * 8 + (nth p (((2 * k.1 : Nat) : Int) + 1).toNat).toNat * 1 = _; rw [e1, e2]; omega) rfl) ?_
                refine r_nil ?_
                refine ⟨by kernel_rfl, ?_⟩
                refine i_then ?_
                refine t_seq ?_
                refine t_region ?_
                refine mvI rfl ?_
                refine r_bin rfl rfl rfl ?_
                refine r_nil ?_
                refine i_then ?_
                refine t_cond_dec rfl (fun hc5 => ?_) (fun hc5 => ?_)
                ·
                  have hk0 : 0 < k.1 := by have := hc5; omega
                  have e3 : (nth p (((2 * k.1 : Nat) : Int) - 1).toNat).toNat = wT p (k.1 - 1) := by rw [← (path_at (p := p) (k.1 - 1)).2.2, show (((2 * k.1 : Nat) : Int) - 1).toNat = 2 * (k.1 - 1) + 1 by omega]
                  have hv3 := hev (((2 * k.1 : Nat) : Int) - 1).toNat (by omega)
                  have hal2 : (addP (augUp x.led p m k.1) (wF p k.1) (wT p k.1) m).paid.length = 64 := by rw [addP_len]; exact hal
                  have hab2 := aug_bound hxk hp (m := m) ⟨hm1, by omega⟩ (k := k.1) (by omega) (o := wF p k.1) (t := wT p (k.1 - 1)) (by omega) (by omega)
                  have hab3 := addP_P hal (o := wF p k.1) (t := wT p k.1) (o' := wF p k.1) (t' := wT p (k.1 - 1)) (by omega) (by omega) (by omega) m
                  refine t_draw mixed rfl ?_
                  refine mvO rfl ?_
                  refine mvS rfl ?_
                  refine mvI rfl ?_
                  refine r_index_slN rfl rfl rfl rfl rfl rfl (by omega) ?_
                  refine r_load_pp rfl rfl rfl rfl ?_
                  refine mvS rfl ?_
                  refine mvI rfl ?_
                  refine r_sub rfl rfl (by omega) (by omega) ?_
                  refine r_index_sl rfl rfl rfl rfl rfl rfl (by omega) (by omega) ?_
                  refine r_load_pp rfl rfl rfl rfl ?_
                  refine r_nilCheck_ptr rfl ?_
                  refine r_field_ptr rfl rfl rfl rfl rfl (by decide) ?_
                  refine r_index_ptrI rfl rfl rfl rfl rfl (by omega) (by omega) ?_
                  refine r_index_ptrI rfl rfl rfl rfl rfl (by omega) (by omega) ?_
                  refine r_load_ob (ty := Ty.int .i64 ((addP (augUp x.led p m k.1) (wF p k.1) (wT p k.1) m).P (wF p k.1) (wT p (k.1 - 1)))) rfl rfl (by decide) rfl rfl (led_at (by omega) (by omega) (by show 0 + 2 + (nth p (2 * k.1)).toNat * 8 + (nth p (((2 * k.1 : Nat) : Int) - 1).toNat).toNat * 1 = _; rw [e1, e3]; omega)) ?_
                  refine mvI rfl ?_
                  refine r_sub rfl rfl (by omega) (by omega) ?_
                  refine r_nilCheck_ptr rfl ?_
                  refine r_field_ptr rfl rfl rfl rfl rfl (by decide) ?_
                  refine r_index_ptrI rfl rfl rfl rfl rfl (by omega) (by omega) ?_
                  refine r_index_ptrI rfl rfl rfl rfl rfl (by omega) (by omega) ?_
                  refine r_store_ob (z := addP (addP (augUp x.led p m k.1) (wF p k.1) (wT p k.1) m) (wF p k.1) (wT p (k.1 - 1)) (-m)) rfl rfl (by decide) rfl rfl rfl rfl (by unfold LedE; show 0 + 2 + (nth p (2 * k.1)).toNat * 8 + (nth p (((2 * k.1 : Nat) : Int) - 1).toNat).toNat * 1 < 66; omega) rfl (led_add' hal2 (by omega) (by omega) (by show 0 + 2 + (nth p (2 * k.1)).toNat * 8 + (nth p (((2 * k.1 : Nat) : Int) - 1).toNat).toNat * 1 = _; rw [e1, e3]; omega) (by omega)) ?_
                  refine r_nil ?_
                  refine ⟨by kernel_rfl, ?_⟩
                  refine i_block ?_
                  refine i_then ?_
                  refine t_region ?_
                  refine mvI rfl ?_
                  refine r_add rfl rfl (by omega) (by omega) ?_
                  refine asI rfl ?_
                  refine r_nil ?_
                  refine i_round (⟨k.1 + 1, by omega⟩) ?_ (by show K - (k.1 + 1) < K - k.1; omega)
                  (refine Ent.mk' ?_ ?_ <;> (repeat' (first | exact allSub_zero | exact allTags_nil | refine allSub_succ' ?_ (Ty.sub_any _) | refine allSub_succ' ?_ (Ty.sub_refl _) | refine allTags_cons rfl ?_ ?_)))
                  all_goals skip
                  all_goals exact Cont.sub_vec (congrArg (fun l => [l]) (aug_more hk0))
                ·
                  refine t_skip ?_
                  refine i_block ?_
                  refine i_then ?_
                  refine t_region ?_
                  refine mvI rfl ?_
                  refine r_add rfl rfl (by omega) (by omega) ?_
                  refine asI rfl ?_
                  refine r_nil ?_
                  refine i_round (⟨k.1 + 1, by omega⟩) ?_ (by show K - (k.1 + 1) < K - k.1; omega)
                  (refine Ent.mk' ?_ ?_ <;> (repeat' (first | exact allSub_zero | exact allTags_nil | refine allSub_succ' ?_ (Ty.sub_any _) | refine allSub_succ' ?_ (Ty.sub_refl _) | refine allTags_cons rfl ?_ ?_)))
                  all_goals skip
                  all_goals exact Cont.sub_vec (congrArg (fun l => [l]) (aug_zero (by have := hc5; omega)))
              ·
                refine t_exit ?_
                refine i_then_exit ?_
                refine i_then_exit ?_
                refine i_block_exit rfl ?_
                refine i_then ?_
                refine t_region ?_
                refine mvI rfl ?_
                refine mvI rfl ?_
                refine r_sub rfl rfl (by omega) (by omega) ?_
                refine asI rfl ?_
                refine r_nil ?_
                refine i_block ?_
                refine i_round (x.next h hu hc1 hne) ?_ (by show x.fuel - 1 < x.fuel; have := x.le; omega)
                (refine Ent.mk' ?_ ?_ <;> (repeat' (first | exact allSub_zero | exact allTags_nil | refine allSub_succ' ?_ (Ty.sub_any _) | refine allSub_succ' ?_ (Ty.sub_refl _) | refine allTags_cons rfl ?_ ?_ | refine allSub_succ' ?_ ?_)))
                all_goals skip
                all_goals first | exact Ty.sub_int (by rw [hme]; rfl) | exact Cont.sub_vec (by rw [show k.1 = (findM x.led u).length / 2 by rw [← hpe, hp.half]; omega, hme, hpe]; rfl)
    ·
      refine t_exit ?_
      refine i_then_exit ?_
      refine i_then_exit ?_
      refine i_block_exit rfl ?_
      refine i_end ?_
      refine g_ret0 [1000] rfl (by decide) ?_
      exact rc_cons rfl (cc_vec (by decide) (congrArg (fun l => [l]) (x.stop1 hc1).symm)) rc_nil
end Go.Proofs.Ytifgbnbkimcchaa

namespace Go.Proofs.Ytifgbnbkimcchaa
open Go Go.T
set_option maxHeartbeats 2000000
theorem paid0 (b : SB) (n : Nat) : paid64 ⟨b, n, List.replicate 64 0⟩ = List.replicate 64 0 := by
  unfold paid64
  apply List.ext_getElem?
  intro i
  rw [List.getElem?_map, List.getElem?_replicate]
  by_cases h : i < 64
  · rw [if_pos h, List.getElem?_range h]
    show some (nth (List.replicate 64 (0 : Int)) i) = _
    unfold nth
    rw [List.getD_eq_getElem?_getD, List.getElem?_replicate, if_pos h]; rfl
  · rw [if_neg h, List.getElem?_eq_none (by simp; omega)]; rfl
theorem fill_led (f : Flr) (n : Nat) (place : Nat → Option (Nat × Nat)) (h0 : place 0 = some (0, 1)) (h1 : place 1 = some (1, 1)) :
    fillT place (Ty.ex (.pointer none) :: List.replicate 65 (Ty.int .i64 0)) [(0, [Ty.pe BrdE (boardsOf f) 0]), (1, [Ty.int .i64 n])] = some (LedE.tys (led0 f n)) := by
  have e : LedE.tys (led0 f n) = Ty.pe BrdE (boardsOf f) 0 :: Ty.int .i64 n :: List.replicate 64 (Ty.int .i64 0) := by
    show ledTys (led0 f n) = _
    unfold ledTys led0
    rw [paid0]; rfl
  rw [e]
  simp only [fillT, h0, h1]
  rfl
theorem payR_in {f : Flr} {n : Nat} (h : payE f n = 0) : payR f n = paysL f n := if_pos h
theorem payR_no {f : Flr} {b : Int} (h : ¬ payE f b = 0) : payR f b = [] := if_neg h
theorem paysL_eq (f : Flr) (n : Nat) : paysL f n = paysUp (ledT f n) f.turnings.length f.turnings.length := rfl
theorem rowL_zero (l : Led) (o : Nat) : rowL l o 0 = [] := rfl
theorem paysUp_zero (l : Led) (T : Nat) : paysUp l T 0 = [] := rfl
theorem rowL_len (l : Led) (o : Nat) : ∀ j, (rowL l o j).length ≤ j
  | 0 => Nat.le_refl _
  | j + 1 => by
    have := rowL_len l o j
    rw [rowL_succ, List.length_append]
    split <;> simp <;> omega
theorem paysUp_len (l : Led) {T : Nat} (hT : T ≤ 8) : ∀ k, (paysUp l T k).length ≤ 8 * k
  | 0 => Nat.zero_le _
  | k + 1 => by
    have h1 := paysUp_len l hT k
    have h2 := rowL_len l k T
    rw [paysUp_succ, List.length_append]; omega
attribute [local irreducible] dInt dBool dSl dPp dPtr dAgg dTup dClo dAny dEx dStr dGd dCells dVec dVs dRow dOp nth Tri Into TOps Ctr bodyPost Exit.then Exit.inBlock Code.wp Code.wpIn dWhen dPa dPe dAo dArr dMp dPm dMap dCJ CtrG CtrI OpY keepPost iterPost bodyPostM roundQ
theorem c_payUp (f : Flr) (h : checkP f = 0) (n : Nat) (hb : n < f.bears.length) (k : Nat) (hk : k < f.turnings.length) : CtrG Try.prog 116 [1000] [(1000, Cont.vec LedE 168 [ledUp f n k])] [Ty.ptr 1000 0, Ty.int .i64 (k : Nat)] [(1000, Cont.vec LedE 168 [ledUp f n (k + 1)])] (Ty.tup []) :=
  c_pay f h n hb (ledUp f n k) (led_spec h n k (by omega)).inv k hk ((led_spec h n k (by omega)).rest k (Nat.le_refl _))
theorem row_next {l : Led} {T o t : Nat} (hne : ¬ l.P o t = 0) : (paysUp l T o ++ rowL l o t) ++ [⟨(o : Int), (t : Int), l.P o t⟩] = paysUp l T o ++ rowL l o (t + 1) := by rw [rowL_succ, if_neg hne, List.append_assoc]
theorem row_same {l : Led} {T o t : Nat} (he : l.P o t = 0) : paysUp l T o ++ rowL l o t = paysUp l T o ++ rowL l o (t + 1) := by rw [rowL_succ, if_pos he, List.append_nil]
theorem payE_eq (f : Flr) (b : Int) : openE f (!inB b 0 (f.bears.length - 1)) = payE f b := rfl
theorem pay_ne {a b c : Int} (h : (!(decide (a = a) && (decide (b = b) && decide (c = 0)))) = true) : ¬ c = 0 := by simpa using h
theorem pay_zero {a b c : Int} (h : (!(decide (a = a) && (decide (b = b) && decide (c = 0)))) = false) : c = 0 := by simpa using h
attribute [local irreducible] Led.P LedE BrdE ledUp ledT paysUp rowL paysL payR payE
set_option maxRecDepth 100000 in
theorem c_Payments (f : Flr) (hs : f.Small) (bay : Int) : Ctr Try.prog 66 [flrT f, Ty.int .i64 bay] (Ty.tup [Ty.sl PayE (payR f bay), Ty.int .i64 (payE f bay)]) := by
  refine fn_intro Try.func66 rfl (by decide) Try.ntmps66 (by exact Nat.le_of_ble_eq_true rfl) fun w0 M0 => ?_
  have hs1 := hs.bears; have hs2 := hs.bins; have hs3 := hs.turnings; have hs4 := hs.rules
  refine t_seq ?_
  refine t_region ?_
  refine r_box_agg rfl ?_
  refine asX rfl ?_
  refine asI rfl ?_
  refine r_nil ?_
  refine i_then ?_
  refine t_seq ?_
  refine t_draw mixed rfl ?_
  refine r_load_ppN rfl rfl rfl (by exact Nat.le_of_ble_eq_true rfl) ?_
  refine r_load_ppN rfl rfl rfl (by exact Nat.le_of_ble_eq_true rfl) ?_
  refine mvI rfl ?_
  refine r_call (c_bay f hs _) rfl rfl rfl rfl rfl ?_
  refine r_not rfl ?_
  refine r_call (c_open f hs _) rfl rfl rfl rfl rfl ?_
  refine mvT rfl ?_
  refine r_extract rfl rfl ?_
  refine r_extract rfl rfl ?_
  refine asW rfl ?_
  refine asI rfl ?_
  refine r_nil ?_
  refine ⟨by kernel_rfl, ?_⟩
  refine i_then ?_
  refine t_seq ?_
  refine t_seq ?_
  refine t_region ?_
  refine mvI rfl ?_
  refine r_bin rfl rfl rfl ?_
  refine r_nil ?_
  refine i_then ?_
  refine t_cond_ndec rfl (fun hc1 => ?_) (fun hc1 => ?_)
  ·
    refine t_seq ?_
    refine t_region ?_
    refine mvI rfl ?_
    refine asX rfl ?_
    refine asI rfl ?_
    refine r_nil ?_
    refine i_then ?_
    refine t_ret ?_
    refine i_then_ret ?_
    refine i_rp2 rfl rfl rfl ?_ ?_
    all_goals skip
    all_goals first | exact ret_nil_eq (payR_no (by rw [← payE_eq]; exact hc1)) | exact ret_eq rfl rfl (congrArg (Ty.int .i64) (payE_eq f bay))
  ·
    refine t_skip ?_
    refine i_then ?_
    refine t_seq ?_
    have h0 := openE_zero hc1
    have hpE : payE f bay = 0 := by unfold payE; exact hc1
    have hin := inB_true (n := bay) (lo := 0) (hi := (f.bears.length : Int) - 1) (by have := h0.2; simpa using this)
    obtain ⟨n, rfl⟩ := Int.eq_ofNat_of_zero_le hin.1
    have hr := (check_right h0.1).ranged
    have hb4 := hr.bears
    have h8 := hr.turnings
    have hnb : n < f.bears.length := by omega
    refine t_as (s := 6) rfl (Ty.when_sub (decide_eq_true hc1)) ?_
    refine t_region ?_
    refine mvPe rfl ?_
    refine mvI rfl ?_
    refine r_buildO LedE (led0 f n) rfl rfl (by exact List.cons_ne_nil _ _) rfl (by repeat (first | exact (Parts.nil : Parts _ _ [] _) | (show Parts _ _ ((_, _) :: _) _; apply Parts.one; (· first | exact (rfl : _ = Ty.int _ _) | exact (rfl : _ = Ty.pe _ _ _)); (· exact rfl)))) (fill_led f n _ rfl rfl) ?_
    refine r_box_ob (E := LedE) (led0 f n) rfl rfl ?_
    refine asO rfl ?_
    refine r_nil ?_
    refine i_then ?_
    refine t_seq ?_
    refine t_seq ?_
    refine t_region ?_
    refine r_field_pp rfl rfl rfl rfl rfl (by decide) ?_
    refine r_load_pp rfl rfl rfl rfl ?_
    refine r_len rfl rfl rfl ?_
    refine mvI rfl ?_
    refine r_nil ?_
    refine i_then ?_
    refine t_block ?_
    refine t_loop (fun (k : {k : Nat // k ≤ f.turnings.length}) => live [(2, Ty.pp (flrTys f)), (8, Ty.ptr 30 0), (32, Ty.int .i64 f.turnings.length), (33, Ty.int .i64 (k.1 : Nat))] [(30, Cont.vec LedE 168 [ledUp f n k.1])]) (fun k => f.turnings.length - k.1) (⟨0, by omega⟩) ?_ fun k => ?_
    · (refine Ent.mk' ?_ ?_ <;> (repeat' (first | exact allSub_zero | exact allTags_nil | refine allSub_succ' ?_ (Ty.sub_any _) | refine allSub_succ' ?_ (Ty.sub_refl _) | refine allTags_cons rfl ?_ ?_)))
      all_goals exact Cont.sub_vec (by unfold ledUp; rfl)
    ·
      have hk := k.2
      refine t_seq ?_
      refine t_region ?_
      refine r_bin rfl rfl rfl ?_
      refine r_nil ?_
      refine i_then ?_
      refine t_seq ?_
      refine t_cond_dec rfl (fun hc2 => ?_) (fun hc2 => ?_)
      ·
        refine t_skip ?_
        refine i_then ?_
        refine t_seq ?_
        refine t_block ?_
        refine t_seq ?_
        refine t_region ?_
        refine mvI rfl ?_
        refine asI rfl ?_
        refine r_nil ?_
        refine i_then ?_
        refine t_region ?_
        refine mvO rfl ?_
        refine mvI rfl ?_
        refine r_callG [(30, 1000)] [] [(30, Cont.vec LedE 168 [ledUp f n (k.1 + 1)])] (c_payUp f h0.1 n hnb k.1 (by omega)) rfl rfl (by repeat (first | exact cv_nil | refine cv_cons ?_ ?_ | exact cv_ptr List.mem_cons_self | exact cv_pub rfl rfl)) (pre_cons (a := 30) (b := 1000) (by exact List.mem_cons_self) rfl (cc_vec (by exact List.mem_cons_self) rfl) pre_nil) (post_cons (a := 30) (b := 1000) (by exact List.mem_cons_self) rfl (cc_vec (by exact List.mem_cons_self) rfl) post_nil) (cv_pub rfl rfl) ?_
        refine r_nil ?_
        refine i_block ?_
        refine i_then ?_
        refine t_region ?_
        refine r_add rfl rfl (by omega) (by omega) ?_
        refine mvI rfl ?_
        refine r_nil ?_
        refine i_round (⟨k.1 + 1, by omega⟩) ?_ (by show f.turnings.length - (k.1 + 1) < f.turnings.length - k.1; omega)
        (refine Ent.mk' ?_ ?_ <;> (repeat' (first | exact allSub_zero | exact allTags_nil | refine allSub_succ' ?_ (Ty.sub_any _) | refine allSub_succ' ?_ (Ty.sub_refl _) | refine allTags_cons rfl (Cont.sub_refl _) ?_)))
        all_goals skip
      ·
        refine t_exit ?_
        refine i_then_exit ?_
        refine i_then_exit ?_
        refine i_block_exit rfl ?_
        refine i_then ?_
        refine t_seq ?_
        obtain ⟨k, hk2⟩ := k
        obtain rfl : k = f.turnings.length := by have hx : ¬ (k : Int) < (f.turnings.length : Nat) := hc2; omega
        have hlk := inv_ok h0.1 hnb (led_spec h0.1 n f.turnings.length (Nat.le_refl _)).inv
        refine t_region ?_
        refine asX rfl ?_
        refine r_nil ?_
        refine i_then ?_
        refine t_seq ?_
        refine t_seq ?_
        refine t_region ?_
        refine r_field_pp rfl rfl rfl rfl rfl (by decide) ?_
        refine r_load_pp rfl rfl rfl rfl ?_
        refine r_len rfl rfl rfl ?_
        refine mvI rfl ?_
        refine r_nil ?_
        refine i_then ?_
        refine t_block ?_
        refine t_loop (fun (o : {o : Nat // o ≤ f.turnings.length}) => live [(2, Ty.pp (flrTys f)), (8, Ty.ptr 30 0), (10, Ty.row PayE 34 72 (paysUp (ledUp f n f.turnings.length) f.turnings.length o.1)), (42, Ty.int .i64 f.turnings.length), (43, Ty.int .i64 (o.1 : Nat))] [(30, Cont.vec LedE 168 [ledUp f n f.turnings.length])]) (fun o => f.turnings.length - o.1) (⟨0, by omega⟩) ?_ fun o => ?_
        · (refine Ent.mk' ?_ ?_ <;> (repeat' (first | exact allSub_zero | exact allTags_nil | refine allSub_succ' ?_ (Ty.sub_any _) | refine allSub_succ' ?_ (Ty.sub_refl _) | refine allTags_cons rfl (Cont.sub_refl _) ?_ | refine allSub_succ' ?_ ?_)))
          all_goals exact nil_row_eq (paysUp_zero _ _).symm
        ·
          have ho := o.2
          have hpl := paysUp_len (ledUp f n f.turnings.length) h8 o.1
          refine t_seq ?_
          refine t_region ?_
          refine r_bin rfl rfl rfl ?_
          refine r_nil ?_
          refine i_then ?_
          refine t_seq ?_
          refine t_cond_dec rfl (fun hc3 => ?_) (fun hc3 => ?_)
          ·
            refine t_skip ?_
            refine i_then ?_
            refine t_seq ?_
            refine t_block ?_
            refine t_seq ?_
            refine t_region ?_
            refine mvI rfl ?_
            refine asI rfl ?_
            refine r_nil ?_
            refine i_then ?_
            refine t_seq ?_
            refine t_region ?_
            refine r_field_pp rfl rfl rfl rfl rfl (by decide) ?_
            refine r_load_pp rfl rfl rfl rfl ?_
            refine r_len rfl rfl rfl ?_
            refine mvI rfl ?_
            refine r_nil ?_
            refine i_then ?_
            refine t_block ?_
            refine t_loop (fun (t : {t : Nat // t ≤ f.turnings.length}) => live [(2, Ty.pp (flrTys f)), (8, Ty.ptr 30 0), (10, Ty.row PayE 34 72 (paysUp (ledUp f n f.turnings.length) f.turnings.length o.1 ++ rowL (ledUp f n f.turnings.length) o.1 t.1)), (11, Ty.int .i64 (o.1 : Nat)), (42, Ty.int .i64 f.turnings.length), (43, Ty.int .i64 (o.1 : Nat)), (48, Ty.int .i64 f.turnings.length), (49, Ty.int .i64 (t.1 : Nat))] [(30, Cont.vec LedE 168 [ledUp f n f.turnings.length])]) (fun t => f.turnings.length - t.1) (⟨0, by omega⟩) ?_ fun t => ?_
            · (refine Ent.mk' ?_ ?_ <;> (repeat' (first | exact allSub_zero | exact allTags_nil | refine allSub_succ' ?_ (Ty.sub_any _) | refine allSub_succ' ?_ (Ty.sub_refl _) | refine allTags_cons rfl (Cont.sub_refl _) ?_ | refine allSub_succ' ?_ ?_)))
              all_goals exact Ty.sub_row (by rw [rowL_zero, List.append_nil])
            ·
              have ht := t.2
              have hrl := rowL_len (ledUp f n f.turnings.length) o.1 t.1
              refine t_seq ?_
              refine t_region ?_
              refine r_bin rfl rfl rfl ?_
              refine r_nil ?_
              refine i_then ?_
              refine t_seq ?_
              refine t_cond_dec rfl (fun hc4 => ?_) (fun hc4 => ?_)
              ·
                refine t_skip ?_
                refine i_then ?_
                refine t_seq ?_
                refine t_block ?_
                refine t_seq ?_
                refine t_region ?_
                refine mvI rfl ?_
                refine asI rfl ?_
                refine r_nil ?_
                refine i_then ?_
                refine t_seq ?_
                refine t_region ?_
                refine mvI rfl ?_
                refine mvI rfl ?_
                refine mvO rfl ?_
                refine mvI rfl ?_
                refine mvI rfl ?_
                refine r_nilCheck_ptr rfl ?_
                refine r_field_ptr rfl rfl rfl rfl rfl (by decide) ?_
                refine r_index_ptr rfl rfl rfl rfl rfl (by omega) ?_
                refine r_index_ptr rfl rfl rfl rfl rfl (by omega) ?_
                refine r_load_ob (ty := Ty.int .i64 ((ledUp f n f.turnings.length).P o.1 t.1)) rfl rfl (by decide) rfl rfl (led_at (by omega) (by omega) (by show 0 + 2 + o.1 * 8 + t.1 * 1 = _; omega)) ?_
                refine r_build rfl rfl (by exact List.cons_ne_nil _ _) rfl (by repeat (first | exact (Parts.nil : Parts _ _ [] _) | (show Parts _ _ ((_, _) :: _) _; apply Parts.one; (· exact (rfl : _ = Ty.int _ _)); (· exact rfl)))) (by exact (rfl : _ = some [_, _, _])) ?_
                refine r_alloc rfl (by exact List.cons_ne_nil _ _) rfl ?_
                refine r_storeN rfl rfl (by decide) rfl rfl rfl rfl rfl rfl ?_
                refine r_nil ?_
                refine i_then ?_
                refine t_seq ?_
                refine t_region ?_
                refine r_load_ptrN rfl rfl (by decide) rfl rfl (by exact Nat.le_of_ble_eq_true rfl) ?_
                refine mvI rfl ?_
                refine mvI rfl ?_
                refine r_build rfl rfl (by exact List.cons_ne_nil _ _) rfl (by repeat (first | exact (Parts.nil : Parts _ _ [] _) | (show Parts _ _ ((_, _) :: _) _; apply Parts.one; (· exact (rfl : _ = Ty.int _ _)); (· exact rfl)))) (by exact (rfl : _ = some [_, _, _])) ?_
                refine r_neq_A (eqt34 _ _ _ _ _ _) rfl rfl ?_
                refine r_nil ?_
                refine i_then ?_
                refine t_cond rfl (fun hc5 => ?_) (fun hc5 => ?_)
                ·
                  refine t_region ?_
                  refine mvR rfl ?_
                  refine r_load_ptrN rfl rfl (by decide) rfl rfl (by exact Nat.le_of_ble_eq_true rfl) ?_
                  refine r_buildSlice (E := PayE) (xs := [⟨(o.1 : Nat), (t.1 : Nat), (ledUp f n f.turnings.length).P o.1 t.1⟩]) rfl rfl rfl rfl rfl (by decide) (by decide) (by repeat (first | exact (Parts.nil : Parts _ _ [] _) | (show Parts _ _ ((_, _) :: _) _; apply Parts.agg; (· exact (rfl : _ = Ty.agg _))))) (by exact rfl) rfl ?_
                  refine r_append rfl rfl (by decide) rfl rfl rfl rfl rfl rfl (by decide) (by show ((paysUp (ledUp f n f.turnings.length) f.turnings.length o.1 ++ rowL (ledUp f n f.turnings.length) o.1 t.1).length + 1) * 24 ≤ _; rw [List.length_append]; omega) (by show (paysUp (ledUp f n f.turnings.length) f.turnings.length o.1 ++ rowL (ledUp f n f.turnings.length) o.1 t.1).length + 1 ≤ _; rw [List.length_append]; omega) ?_
                  refine asR rfl ?_
                  refine r_nil ?_
                  refine i_block ?_
                  refine i_then ?_
                  refine t_region ?_
                  refine r_add rfl rfl (by omega) (by omega) ?_
                  refine mvI rfl ?_
                  refine r_nil ?_
                  refine i_round (⟨t.1 + 1, by omega⟩) ?_ (by show f.turnings.length - (t.1 + 1) < f.turnings.length - t.1; omega)
                  (refine Ent.mk' ?_ ?_ <;> (repeat' (first | exact allSub_zero | exact allTags_nil | refine allSub_succ' ?_ (Ty.sub_any _) | refine allSub_succ' ?_ (Ty.sub_refl _) | refine allTags_cons rfl (Cont.sub_refl _) ?_ | refine allSub_succ' ?_ ?_)))
                  all_goals skip
                  all_goals exact Ty.sub_row (row_next (pay_ne hc5))
                ·
                  refine t_skip ?_
                  refine i_block ?_
                  refine i_then ?_
                  refine t_region ?_
                  refine r_add rfl rfl (by omega) (by omega) ?_
                  refine mvI rfl ?_
                  refine r_nil ?_
                  refine i_round (⟨t.1 + 1, by omega⟩) ?_ (by show f.turnings.length - (t.1 + 1) < f.turnings.length - t.1; omega)
                  (refine Ent.mk' ?_ ?_ <;> (repeat' (first | exact allSub_zero | exact allTags_nil | refine allSub_succ' ?_ (Ty.sub_any _) | refine allSub_succ' ?_ (Ty.sub_refl _) | refine allTags_cons rfl (Cont.sub_refl _) ?_ | refine allSub_succ' ?_ ?_)))
                  all_goals skip
                  all_goals exact Ty.sub_row (row_same (pay_zero hc5))
              ·
                refine t_exit ?_
                refine i_then_exit ?_
                refine i_then_exit ?_
                refine i_block_exit rfl ?_
                refine i_block ?_
                refine i_then ?_
                refine t_region ?_
                refine r_add rfl rfl (by omega) (by omega) ?_
                refine mvI rfl ?_
                refine r_nil ?_
                refine i_round (⟨o.1 + 1, by omega⟩) ?_ (by show f.turnings.length - (o.1 + 1) < f.turnings.length - o.1; omega)
                (refine Ent.mk' ?_ ?_ <;> (repeat' (first | exact allSub_zero | exact allTags_nil | refine allSub_succ' ?_ (Ty.sub_any _) | refine allSub_succ' ?_ (Ty.sub_refl _) | refine allTags_cons rfl (Cont.sub_refl _) ?_ | refine allSub_succ' ?_ ?_)))
                all_goals skip
                all_goals exact Ty.sub_row (by rw [paysUp_succ, show t.1 = f.turnings.length by omega])
          ·
            refine t_exit ?_
            refine i_then_exit ?_
            refine i_then_exit ?_
            refine i_block_exit rfl ?_
            refine i_then ?_
            refine t_seq ?_
            refine t_region ?_
            refine mvR rfl ?_
            refine asR rfl ?_
            refine asI rfl ?_
            refine r_nil ?_
            refine i_then ?_
            refine t_ret ?_
            refine i_rp2 rfl rfl rfl ?_ ?_
            all_goals skip
            all_goals first | exact ret_row_eq (by decide) (by rw [payR_in hpE, paysL_eq, show o.1 = f.turnings.length by have := o.2; omega]; unfold ledT; rfl) | exact ret_eq rfl rfl (congrArg (Ty.int .i64) hpE.symm)
end Go.Proofs.Ytifgbnbkimcchaa

namespace Go.T
open Go Go.RowKit
def dRc (tg n : Nat) (c : Option Nat) (_ : World) (M : Tags) (v : Value) : Prop := match c with
  | none => n = 0 ∧ v = .slice none 0 0
  | some c => ∃ b, M b = some tg ∧ v = .slice (some ⟨b, 0, none⟩) n c ∧ n ≤ c ∧ c ≤ maxLen
def Ty.rc (tg n : Nat) (c : Option Nat) : Ty := ⟨dRc tg n c, [tg], [], fun le hk _ h => by
  cases c with
  | none => exact h
  | some c => obtain ⟨b, h1, h2⟩ := h; exact ⟨b, (le.own b tg h1 (hk tg (by simp))).1, h2⟩, true, fun _ h => by
  cases c with
  | none => obtain ⟨_, rfl⟩ := h; rfl
  | some c => obtain ⟨_, _, rfl, _⟩ := h; rfl⟩
def dRcv {α : Type} (E : El α) (T : Nat) (xs : List α) (c : Option Nat) (w : World) (M : Tags) (t : Nat) : Prop := match c with
  | none => xs = []
  | some c => ∃ b cs, M b = some t ∧ w.heap[b]? = some (.cells cs T (0, 0)) ∧ cs.size = c * E.size ∧ dens w M (xs.flatMap E.tys) (cs.toList.take (xs.flatMap E.tys).length)
def Cont.rcv {α : Type} (E : El α) (T : Nat) (xs : List α) (c : Option Nat) : Cont :=
  { den := dRcv E T xs c, mono := fun le _ _ hs hk h => by
      cases c with
      | none => exact h
      | some c =>
        obtain ⟨b, cs, h1, h2, h3, h4⟩ := h
        obtain ⟨h5, h6⟩ := le.own b _ h1 hk
        exact ⟨b, cs, h5, (h6 hs).trans h2, h3, dens_mono le (by rw [E.flat_deps]; intro _ h; cases h) (by rw [E.flat_cdeps]; intro _ h; cases h) h4⟩ }
theorem Cont.sub_rcv {α : Type} {E : El α} {T : Nat} {xs ys : List α} {c : Option Nat} (h : xs = ys) : (Cont.rcv E T xs c).Sub (Cont.rcv E T ys c) := h ▸ Cont.sub_refl _
theorem rcv_vec {α : Type} {E : El α} {T : Nat} {xs : List α} {c : Option Nat} {w : World} {M : Tags} {t : Nat} (h : dRcv E T xs c w M t) : dVec E T xs w M t := by
  cases c with
  | none => exact .inl h
  | some c => obtain ⟨b, cs, h1, h2, _, h4⟩ := h; exact .inr ⟨b, cs, h1, h2, h4⟩
section
variable {P : Program} {fr : Fr} {A : As} {Q : Exit → Act → World → Prop} {code : Code}
theorem t_ownC {α : Type} {E : El α} {T tg s : Nat} {xs : List α} (hs : Nat.blt s fr.n = true) (hx : A.slots s = .row E T tg xs)
    (h : ∀ c, Tri P fr code ⟨fun i => bif Nat.beq i s then .rc tg xs.length c else A.slots i, (tg, .rcv E T xs c) :: A.tags⟩ Q) : Tri P fr code A Q := fun a w ⟨M, ok, hsl, ht⟩ => by
  have hd := hsl s (by simpa using hs)
  rw [hx] at hd
  obtain ⟨cs, h1, h2, h3⟩ := hd
  have key : ∃ c, dRc tg xs.length c w M (a.tmps.getD s undef) ∧ dRcv E T xs c w M tg := by
    rcases h1.2 with ⟨e, h0⟩ | ⟨g, cap, cur, ex, _, hh, hn1, hcap, hsz, htk⟩
    · exact ⟨none, ⟨h0, e⟩, List.length_eq_zero_iff.1 h0⟩
    · have hg : M g = some tg := h3 g (by rw [ex]; rfl)
      exact ⟨some cap, ⟨g, hg, ex, hn1, hcap⟩, ⟨g, cur, hg, hh, hsz, by rw [flat_len, htk]; exact h2⟩⟩
  obtain ⟨c, k1, k2⟩ := key
  refine h c a w ⟨M, ok, fun i hi => ?_, fun x hx => ?_⟩
  · cases hb : Nat.beq i s with
    | false => simpa only [hb, cond_false] using hsl i hi
    | true =>
      have : i = s := Nat.eq_of_beq_eq_true hb
      subst this
      simp only [hb, cond_true]
      exact k1
  · rcases List.mem_cons.1 hx with rfl | hx
    · exact k2
    · exact ht x hx
theorem t_unownC {α : Type} {E : El α} {T tg s : Nat} {xs : List α} {c : Option Nat} (hs : Nat.blt s fr.n = true) (h1 : 1 ≤ tg) (hx : A.slots s = .rc tg xs.length c) (hc : A.tag tg = some (.rcv E T xs c))
    (h : Tri P fr code ⟨fun i => bif Nat.beq i s then .row E T tg xs else A.slots i, A.tags⟩ Q) : Tri P fr code A Q := fun a w ⟨M, ok, hsl, ht⟩ => by
  have hd := hsl s (by simpa using hs)
  rw [hx] at hd
  have hcd : dRcv E T xs c w M tg := ht _ (tag_mem hc)
  have key : dRow E T tg xs w M (a.tmps.getD s undef) := by
    cases c with
    | none =>
      obtain ⟨_, e⟩ := hd
      have e2 : xs = [] := hcd
      subst e2
      rw [e]; exact row_nil
    | some c =>
      obtain ⟨b, hb, e, hn, hm⟩ := hd
      obtain ⟨b', cs, hb', hh, hsz, hdd⟩ := hcd
      obtain ⟨u, rfl⟩ : ∃ u, tg = u + 1 := ⟨tg - 1, by omega⟩
      have := ok.wf.inj b b' u hb hb'
      subst this
      rw [e]
      refine ⟨cs.toList.take (xs.length * E.size), ⟨?_, .inr ⟨b, c, cs, rfl, Nat.zero_le _, hh, hn, hm, hsz, rfl⟩⟩, by rw [flat_len] at hdd; exact hdd, fun g hg => by
        have : b = g := by simpa [Value.ownBlock] using hg
        rw [← this]; exact hb⟩
      have h2 : xs.length * E.size ≤ c * E.size := Nat.mul_le_mul_right _ hn
      rw [List.length_take]; simp; omega
  refine h a w ⟨M, ok, fun i hi => ?_, ht⟩
  cases hb : Nat.beq i s with
  | false => simpa only [hb, cond_false] using hsl i hi
  | true =>
    have : i = s := Nat.eq_of_beq_eq_true hb
    subst this
    simp only [hb, cond_true]
    exact key
end
section
variable {P : Program} {fr : Fr} {ops : Array Oper} {A : As} {rest : List Oper} {K : As → List (As × Fx) → Prop} {d : Nat} {t ty' ty2 : TypeId} {p : String} {e : Array Edge}
theorem mvC {x : Operand} {tg n : Nat} {c : Option Nat} (hx : A.op fr x = .rc tg n c) (h : TOps P fr ops rest (A.set d (.rc tg n c)) fun A' l => K A' ((A, { d := some d, ty := .rc tg n c, rs := opR x }) :: l)) : TOps P fr ops (⟨some d, .move x, t, p, e, none⟩ :: rest) A K := r_move hx h
end
section
variable {P : Program} {fr : Fr} {ops : Array Oper} {A : As} {rest : List Oper} {K : As → List (As × Fx) → Prop} {d : Nat} {t ty' ty2 : TypeId} {p : String} {e : Array Edge} [T : Tab P]
theorem r_index_rc {x y : Operand} {tg n : Nat} {c : Option Nat} {k : IntKind} {i : Nat} {ti te : TI} {el : Nat} (hx : A.op fr x = .rc tg n c) (hy : A.op fr y = .int k i) (hT : T.tab[ty']? = some ti) (hk : ti.k = .slice el) (hE : T.tab[el]? = some te) (hi : i < n)
    (h : TOps P fr ops rest (A.set d (.ptr tg (i * te.size))) fun A' l => K A' ((A, { d := some d, ty := .ptr tg (i * te.size), rs := opR x ++ opR y }) :: l)) : TOps P fr ops (⟨some d, .indexAddr ty' x y, t, p, e, none⟩ :: rest) A K :=
  tops_pure (opT_pure (rt := []) rfl rfl fun a w M _ hr _ => by
    obtain ⟨hdx, hdy⟩ := op2 hr
    rw [hx] at hdx; rw [hy] at hdy
    have ey : a.eval y = .int k i := hdy
    cases c with
    | none => obtain ⟨h0, _⟩ := hdx; omega
    | some c =>
      obtain ⟨b, hb, ex, hn, hm⟩ := hdx
      exact ⟨_, by simp only [execOp, ex, ey, Sem.run_bind, run_index_slice hT hk hE (by omega : (0 : Int) ≤ (i : Int)) (by omega : ((i : Nat) : Int).toNat < n)]; rfl, b, hb, by simp [Addr.add_lit]⟩) h
theorem r_len_rc {x : Operand} {tg n : Nat} {c : Option Nat} {ti : TI} {el : Nat} (hx : A.op fr x = .rc tg n c) (hT : T.tab[ty']? = some ti) (hk : ti.k = .slice el)
    (h : TOps P fr ops rest (A.set d (.int .i64 n)) fun A' l => K A' ((A, { d := some d, ty := .int .i64 n, rs := opR x }) :: l)) : TOps P fr ops (⟨some d, .call ⟨.builtin .len, #[x], #[ty']⟩, t, p, e, none⟩ :: rest) A K :=
  tops_pure (opT_pure (rt := []) rfl rfl fun a w M _ hrd _ => by
    have hdx := op_den (x := x) (fun _ h => h) hrd
    rw [hx] at hdx
    obtain ⟨_, D, _, hD, hkd, _⟩ := tab_info hT
    rw [hk] at hkd
    cases D <;> simp only [TK.of, reduceCtorEq, TK.slice.injEq] at hkd
    cases c with
    | none =>
      obtain ⟨h0, ex⟩ := hdx
      exact ⟨.int .i64 n, by simp [execOp, resolve, invoke, builtin, ex, Builtin.len_, run_underlying hD, goInt, h0], rfl⟩
    | some c =>
      obtain ⟨b, _, ex, _⟩ := hdx
      exact ⟨.int .i64 n, by simp [execOp, resolve, invoke, builtin, ex, Builtin.len_, run_underlying hD, goInt], rfl⟩) h
theorem r_load_rc {α : Type} [Inhabited α] {E : El α} {xs : List α} {c : Option Nat} {x : Operand} {tg i o Tb : Nat} {ti : TI} {ty : Ty} (hx : A.op fr x = .ptr tg (i * E.size + o)) (hc : A.tag tg = some (.rcv E Tb xs c)) (h1 : 1 ≤ tg) (hT : T.tab[ty']? = some ti) (ha : ti.k.agg = false) (hi : i < xs.length) (hl : (E.tys (nth xs i))[o]? = some ty)
    (h : TOps P fr ops rest (A.set d ty) fun A' l => K A' ((A, { d := some d, ty := ty, rs := opR x, rt := [tg] }) :: l)) : TOps P fr ops (⟨some d, .load ty' x, t, p, e, none⟩ :: rest) A K :=
  tops_pure (opT_pure rfl rfl fun a w M wf hr ht => by
    have := op_den (x := x) (fun _ h => h) hr
    rw [hx] at this
    obtain ⟨b, hb, e⟩ := this
    have hcd : dRcv E Tb xs c w M tg := ht _ (tag_mem hc) (by simp)
    obtain ⟨v, hv, hd⟩ := vec_cell wf h1 hb (rcv_vec hcd) (flat_elem E xs hi o ty hl)
    exact ⟨v, by simp [execOp, e, run_load1 hT ha hv], hd⟩) h
theorem r_store_rc {α : Type} [Inhabited α] {E : El α} {xs : List α} {c : Option Nat} {x y : Operand} {tg i o Tb : Nat} {ti : TI} {ty : Ty} {z : α} (hx : A.op fr x = .ptr tg (i * E.size + o)) (hc : A.tag tg = some (.rcv E Tb xs c)) (h1 : 1 ≤ tg) (hT : T.tab[ty']? = some ti) (hsz : ti.size = 1) (hy : A.op fr y = ty) (ho : ty.one = true) (hi : i < xs.length) (hoe : o < E.size)
    (hdt : disj ty.cdeps [tg] = true) (hl : (E.tys (nth xs i)).set o ty = E.tys z)
    (h : TOps P fr ops rest (A.after { d := none, S := [tg], sets := [(tg, .rcv E Tb (xs.set i z) c)], rs := opR x ++ opR y, rt := [tg] }) fun A' l'' => K A' ((A, { d := none, S := [tg], sets := [(tg, .rcv E Tb (xs.set i z) c)], rs := opR x ++ opR y, rt := [tg] }) :: l'')) :
    TOps P fr ops (⟨none, .store ty' x y, t, p, e, none⟩ :: rest) A K := by
  refine ⟨_, opT_unit rfl rfl rfl (by simp) (by simpa using h1) (by simp) fun a w M wf hr ht => ?_, h⟩
  obtain ⟨hdx, hdy⟩ := op2 hr
  rw [hx] at hdx; rw [hy] at hdy
  obtain ⟨b, hb, ex⟩ := hdx
  have hcd : dRcv E Tb xs c w M tg := ht _ (tag_mem hc) (by simp)
  cases c with
  | none => have e2 : xs = [] := hcd; subst e2; exact absurd hi (Nat.not_lt_zero _)
  | some c =>
  obtain ⟨b', cs, hb', hh, hsz2, hd⟩ := hcd
  obtain ⟨u, rfl⟩ : ∃ u, tg = u + 1 := ⟨tg - 1, by omega⟩
  have := wf.inj b b' u hb hb'
  subst this
  have hone := ty.isOne ho hdy
  have hlen := dens_len hd
  have hoff : i * E.size + o < cs.size := by
    rw [flat_len, List.length_take] at hlen
    have : (i + 1) * E.size ≤ xs.length * E.size := Nat.mul_le_mul_right _ hi
    rw [Nat.succ_mul] at this
    simp at hlen; omega
  have hcells : (a.eval y).cells = #[a.eval y] := by
    cases hv : a.eval y <;> first | rfl | (rw [hv] at hone; simp [Value.oneCell'] at hone)
  have hcell : w.cell? ⟨b, i * E.size + o, none⟩ = some cs[i * E.size + o] := by simp [World.cell?, hh]
  have hfz : w.frozen? ⟨b, i * E.size + o, none⟩ = false := by simp [World.frozen?, hh]
  obtain ⟨h1', h2', h3'⟩ := store_le wf hb _ (setCell_block hh (off := i * E.size + o) (a.eval y))
  refine ⟨w.setCell ⟨b, i * E.size + o, none⟩ (a.eval y), ?_, M, h1', h2', trivial, ?_⟩
  · have hst := run_store P w ⟨b, i * E.size + o, none⟩ (a.eval y) .plain hone
    rw [hcell] at hst
    simp only [hfz] at hst
    simp [execOp, Instr.storeAt, Instr.sureAddr, ex, storeVar, hcells, run_sizeOf' hT, hsz, storeCells, hst, Addr.add]
  · intro z' hz'
    simp only [List.mem_singleton] at hz'
    subst hz'
    refine ⟨b, _, hb, h3', by simpa using hsz2, ?_⟩
    rw [Array.toList_setIfInBounds, ← flat_set E xs i hi hl hoe, List.length_set, List.take_set]
    exact dens_set (dens_mono h2' (by intro _ _ h; cases h) (by rw [E.flat_cdeps]; intro _ h; cases h) hd) (ty.mono h2' (by intro _ _ h; cases h) (disj_spec hdt) hdy)
end
end Go.T

namespace Go.T
open Go Go.RowKit
section
variable {P : Program} {fr : Fr} {ops : Array Oper} {A : As} {rest : List Oper} {K : As → List (As × Fx) → Prop} {d : Nat} {t : TypeId} {p : String} {e : Array Edge} {y : Operand}
theorem r_pick1 {c : Operand} {b : Bool} (hc : A.op fr c = .bool true) (hy : A.op fr y = .bool b)
    (h : TOps P fr ops rest (A.set d (.bool b)) fun A' l' => K A' ((A, { d := some d, ty := .bool b, rs := opR c ++ opR y }) :: l')) : TOps P fr ops (⟨some d, .pick c y (.const (.bool false)), t, p, e, none⟩ :: rest) A K :=
  tops_pure (opT_pure rfl rfl fun a w M _ hrd _ => by
    obtain ⟨hdc, hdy⟩ := op2 hrd
    rw [hc] at hdc; rw [hy] at hdy
    have ec : a.eval c = .bool true := hdc
    have ey : a.eval y = .bool b := hdy
    exact ⟨.bool b, by simp only [execOp, ec, ey]; simp [asBool], rfl⟩) h
theorem r_pick0 {c : Operand} (hc : A.op fr c = .bool false)
    (h : TOps P fr ops rest (A.set d (.bool false)) fun A' l' => K A' ((A, { d := some d, ty := .bool false, rs := opR c ++ opR y }) :: l')) : TOps P fr ops (⟨some d, .pick c y (.const (.bool false)), t, p, e, none⟩ :: rest) A K :=
  tops_pure (opT_pure rfl rfl fun a w M _ hrd _ => by
    obtain ⟨hdc, _⟩ := op2 hrd
    rw [hc] at hdc
    have ec : a.eval c = .bool false := hdc
    exact ⟨.bool false, by simp only [execOp, ec]; simp [asBool, Act.eval], rfl⟩) h
end
end Go.T

namespace Go.Proofs.Ytifgbnbkimcchaa
open Go Go.T
set_option maxHeartbeats 2000000
def drawS (s : Sk) : Sk := if skRare s 3 = true then skNext (skNext s) else skNext s
def drawP (s : Sk) (p : Pay) : Pay := if skRare s 3 = true then ⟨p.src, p.dst, IntKind.i64.wrap (p.much + skAmong (skNext s) (-9) 3)⟩ else p
structure PayI (f : Flr) (L : Nat) (s0 : Sk) (y : Nat × List Pay × Sk) : Prop where
  le : y.1 ≤ L
  len : y.2.1.length = L
  rng : InR f y.2.1
  t0 : 0 ≤ y.2.2.taken
  t1 : y.2.2.taken ≤ s0.taken + 2 * y.1
theorem set_nth {l : List Pay} {j : Nat} : l.set j (nth l j) = l := by
  apply List.ext_getElem?
  intro i
  rw [List.getElem?_set]
  split
  · rename_i e; subst e
    split
    · rename_i h; rw [nth, List.getD_eq_getElem?_getD, List.getElem?_eq_getElem h]; rfl
    · rename_i h; rw [List.getElem?_eq_none (by omega)]
  · rfl
theorem drawP_src (s : Sk) (p : Pay) : (drawP s p).src = p.src := by unfold drawP; split <;> rfl
theorem drawP_dst (s : Sk) (p : Pay) : (drawP s p).dst = p.dst := by unfold drawP; split <;> rfl
theorem drawS_taken (s : Sk) : s.taken + 1 ≤ (drawS s).taken ∧ (drawS s).taken ≤ s.taken + 2 := by
  unfold drawS
  split
  · rw [skNext_taken, skNext_taken]; omega
  · rw [skNext_taken]; omega
theorem PayI.next {f : Flr} {L : Nat} {s0 : Sk} {y : Nat × List Pay × Sk} (h : PayI f L s0 y) (hl : y.1 < L) : PayI f L s0 (y.1 + 1, y.2.1.set y.1 (drawP y.2.2 (nth y.2.1 y.1)), drawS y.2.2) := by
  have h1 := drawS_taken y.2.2
  have h2 := h.t0
  have h3 := h.t1
  refine ⟨hl, (by rw [List.length_set]; exact h.len), fun p hp => ?_, (by show 0 ≤ (drawS y.2.2).taken; omega), by show (drawS y.2.2).taken ≤ s0.taken + 2 * ((y.1 + 1 : Nat) : Int); omega⟩
  rcases List.mem_or_eq_of_mem_set hp with hp | rfl
  · exact h.rng p hp
  · rw [drawP_src, drawP_dst]; exact h.rng _ (nth_mem (by rw [h.len]; exact hl))
def tryI (f : Flr) (b k : Nat) : List Pay := if k = 0 then [] else paysL f b
theorem try_none {f : Flr} {b k : Nat} (h : (k : Int) = 0) : [] = tryI f b k := by unfold tryI; rw [if_pos (by omega)]
theorem try_some {f : Flr} {b k : Nat} (h : ¬ (k : Int) = 0) : paysL f b = tryI f b k := by unfold tryI; rw [if_neg (by omega)]
theorem tryI_len {f : Flr} (h : checkP f = 0) (b k : Nat) : (tryI f b k).length ≤ 64 := by
  unfold tryI
  split
  · simp
  · have h8 := (check_right h).ranged.turnings
    have := paysUp_len (ledT f b) h8 f.turnings.length
    rw [← paysL_eq] at this; omega
theorem tryI_in {f : Flr} (h : checkP f = 0) {b : Nat} (hb : b < f.bears.length) (k : Nat) : InR f (tryI f b k) := by
  unfold tryI
  split
  · intro p hp; cases hp
  · exact inR_pays h hb
theorem drawS_no {s : Sk} (h : ¬ skBelow s 3 = 0) : skNext s = drawS s := by unfold drawS; rw [if_neg (by unfold skRare; simpa using h)]
theorem drawS_yes {s : Sk} (h : skBelow s 3 = 0) : skNext (skNext s) = drawS s := by unfold drawS; rw [if_pos (by unfold skRare; simpa using h)]
theorem drawP_no {s : Sk} (h : ¬ skBelow s 3 = 0) {l : List Pay} {j : Nat} : l = l.set j (drawP s (nth l j)) := by unfold drawP; rw [if_neg (by unfold skRare; simpa using h), set_nth]
theorem drawP_yes {s : Sk} (h : skBelow s 3 = 0) {l : List Pay} {j : Nat} : l.set j ⟨(nth l j).src, (nth l j).dst, IntKind.i64.wrap ((nth l j).much + skAmong (skNext s) (-9) 3)⟩ = l.set j (drawP s (nth l j)) := by unfold drawP; rw [if_pos (by unfold skRare; simpa using h)]
theorem rc_len {tg n m : Nat} {c : Option Nat} (h : n = m) : (Ty.rc tg n c).Sub (Ty.rc tg m c) := h ▸ Ty.sub_refl _
def newP (T : Nat) (s : Sk) : Pay := ⟨skBelow (skNext s) T, skBelow (skNext (skNext s)) T, skAmong (skNext (skNext (skNext s))) 0 9⟩
def endS (T : Nat) (s : Sk) : Sk := if (0 : Int) < T then (if skRare s 3 = true then skNext (skNext (skNext (skNext s))) else skNext s) else s
theorem endS_taken (T : Nat) (s : Sk) : s.taken ≤ (endS T s).taken ∧ (endS T s).taken ≤ s.taken + 4 := by
  unfold endS
  split
  · split
    · rw [skNext_taken, skNext_taken, skNext_taken, skNext_taken]; omega
    · rw [skNext_taken]; omega
  · omega
theorem endS_zero {T : Nat} {s : Sk} (h : decide ((0 : Int) < (T : Int)) = false) : s = endS T s := by unfold endS; rw [if_neg (of_decide_eq_false h)]
theorem endS_yes {T : Nat} {s : Sk} (h : decide ((0 : Int) < (T : Int)) = true) (h1 : skBelow s 3 = 0) : skNext (skNext (skNext (skNext s))) = endS T s := by unfold endS; rw [if_pos (of_decide_eq_true h), if_pos (by unfold skRare; simpa using h1)]
theorem endS_no {T : Nat} {s : Sk} (h : decide ((0 : Int) < (T : Int)) = true) (h1 : ¬ skBelow s 3 = 0) : skNext s = endS T s := by unfold endS; rw [if_pos (of_decide_eq_true h), if_neg (by unfold skRare; simpa using h1)]
def Sk.In (s : Sk) (k : Nat) : Prop := 0 ≤ s.taken ∧ s.taken ≤ 2000 * (k : Int)
theorem fill_in (g : List Int) : (skFill g).In 0 := by unfold Sk.In skFill; simp
theorem end_in {f : Flr} {s : Sk} {k : Nat} (h : s.In k) {L : Nat} (hL : L ≤ 64) {y : Nat × List Pay × Sk} (hy : PayI f L s y) : (endS f.turnings.length y.2.2).In (k + 1) := by
  have h1 := endS_taken f.turnings.length y.2.2
  have h2 := hy.t0
  have h3 := hy.t1
  have h4 := hy.le
  unfold Sk.In at *
  omega
theorem pay_start {f : Flr} (hp : checkP f = 0) {b : Nat} (hb : b < f.bears.length) {s : Sk} {k : Nat} (h : s.In k) : PayI f (tryI f b k).length s (0, tryI f b k, s) :=
  ⟨Nat.zero_le _, rfl, tryI_in hp hb _, h.1, by show s.taken ≤ s.taken + 2 * ((0 : Nat) : Int); omega⟩
theorem pay_set (p : Pay) (m : Int) : (PayE.tys p).set 2 (Ty.int .i64 m) = PayE.tys ⟨p.src, p.dst, m⟩ := rfl
theorem inR_app {f : Flr} {l : List Pay} (h : InR f l) {p : Pay} (h1 : (0 ≤ p.src ∧ p.src < f.turnings.length) ∧ 0 ≤ p.dst ∧ p.dst < f.turnings.length) : InR f (l ++ [p]) := fun q hq => by
  rcases List.mem_append.1 hq with hq | hq
  · exact h q hq
  · rw [List.mem_singleton.1 hq]; exact h1
theorem below_T (s : Sk) {T : Nat} (h : (0 : Int) < T) : 0 ≤ skBelow s T ∧ skBelow s T < T := by
  have := skBelow_bound s T
  omega
theorem new_in {f : Flr} {l : List Pay} (h : InR f l) (hT : decide ((0 : Int) < (f.turnings.length : Int)) = true) (s : Sk) : InR f (l ++ [newP f.turnings.length s]) := inR_app h ⟨below_T _ (of_decide_eq_true hT), below_T _ (of_decide_eq_true hT)⟩
theorem paid_cut {m e v h : Int} {o : Bool} (hl : (e = 0 ∧ o = true ∧ m = v ∧ h ≤ m) ∨ ((e = 3 ∨ e = 4 ∨ e = 8) ∧ o = false)) : ((!(decide (decide (e = 0) = o)) || ((!decide (e = 0) && !decide (e = 3)) && !decide (e = 4)) && !decide (e = 8)) || o && (!decide (m = v) || decide (m < h))) = false := by
  rcases hl with ⟨rfl, rfl, rfl, h1⟩ | ⟨h1, rfl⟩
  · rw [decide_eq_false (show ¬ m < h by omega)]; simp
  · rcases h1 with rfl | rfl | rfl <;> simp
theorem new_len {l : List Pay} (h : l.length ≤ 64) (p : Pay) : (l ++ [p]).length ≤ 1000 := by rw [List.length_append]; show l.length + 1 ≤ 1000; omega
attribute [local irreducible] dInt dBool dSl dPp dPtr dAgg dTup dClo dAny dEx dStr dGd dCells dVec dVs dRow dOp nth Tri Into TOps Ctr bodyPost Exit.then Exit.inBlock Code.wp Code.wpIn dWhen dPa dPe dAo dArr dMp dPm dMap dCJ CtrG CtrI OpY keepPost iterPost bodyPostM roundQ
theorem s_most {f : Flr} (hp : checkP f = 0) (hs : f.Small) {b : Nat} (hb : b < f.bears.length) : Ctr Try.prog 56 [flrT f, Ty.int .i64 (b : Nat)] (Ty.tup [Ty.int .i64 (heavyV f b), Ty.int .i64 0]) := by
  have h := c_Most f hs b
  rw [most_in hp hb] at h; exact h
theorem pay_ok {f : Flr} (hp : checkP f = 0) {b : Nat} (hb : b < f.bears.length) : payE f b = 0 := by
  unfold payE openE
  rw [if_neg (by rw [hp]; decide)]
  have : inB (b : Int) 0 (f.bears.length - 1) = true := by unfold inB; simp; omega
  rw [this]; rfl
theorem s_pays {f : Flr} (hp : checkP f = 0) (hs : f.Small) {b : Nat} (hb : b < f.bears.length) : Ctr Try.prog 66 [flrT f, Ty.int .i64 (b : Nat)] (Ty.tup [Ty.sl PayE (paysL f b), Ty.int .i64 0]) := by
  have h := c_Payments f hs b
  have e := pay_ok hp hb
  rw [payR_in e, e] at h; exact h
attribute [local irreducible] tryI endS drawS drawP heavyV paysL Md.flr boundV boundsP
set_option maxRecDepth 100000 in
theorem c_FloorPaid (g t : List Int) (x : Int) (hx : 0 ≤ x ∧ x ≤ 255) : Ctr Try.prog 11 [Ty.sl U8 g, Ty.sl U8 t, Ty.int .u8 x] (Ty.bool true) := by
  refine fn_intro Try.func11 rfl (by decide) Try.ntmps11 (by exact Nat.le_of_ble_eq_true rfl) fun w0 M0 => ?_
  refine t_seq ?_
  refine t_region ?_
  refine asB rfl ?_
  refine r_nil ?_
  refine i_then ?_
  refine t_seq ?_
  obtain ⟨f, s1, hp, _, h5, hM⟩ := made5r g 8 (Nat.le_refl 8)
  have hr := check_right hp
  have hs := small_right hr
  have h8 := hr.ranged.turnings
  have hb4 := hr.ranged.bears
  have hb1 := hr.ranged.bears1
  refine t_region ?_
  refine mvS rfl ?_
  refine r_callG [(24, 10)] [24] [(24, Cont.cells 158 (skTys (skFill g)))] (c_Fill g) rfl rfl (by repeat (first | exact cv_nil | refine cv_cons ?_ ?_ | exact cv_pub rfl rfl)) pre_nil (post_cons (a := 24) (b := 10) (by exact List.mem_cons_self) rfl (cc_cells_eq (by exact List.mem_cons_self) rfl rfl rfl) post_nil) (cv_ptr (by exact List.mem_cons_self)) ?_
  refine r_callG [(24, 1000)] [] [(24, Cont.cells 158 (skTys (s1)))] (hM) rfl rfl (by repeat (first | exact cv_nil | refine cv_cons ?_ ?_ | exact cv_ptr List.mem_cons_self | exact cv_pub rfl rfl)) (pre_cons (a := 24) (b := 1000) (by exact List.mem_cons_self) rfl (cc_cells_eq (by exact List.mem_cons_self) rfl rfl rfl) pre_nil) (post_cons (a := 24) (b := 1000) (by exact List.mem_cons_self) rfl (cc_cells_eq (by exact List.mem_cons_self) rfl rfl rfl) post_nil) (cv_pub rfl rfl) ?_
  refine r_alloc rfl (by exact List.cons_ne_nil _ _) rfl ?_
  refine r_storeN rfl rfl (by decide) rfl rfl rfl rfl rfl rfl ?_
  refine r_nil ?_
  refine i_then ?_
  refine t_seq ?_
  refine t_region ?_
  refine mvI rfl ?_
  refine r_conv rfl rfl rfl rfl ?_
  refine r_field_ptr rfl rfl rfl rfl rfl (by decide) ?_
  refine r_load_ptr rfl rfl (by decide) rfl rfl rfl ?_
  refine r_len rfl rfl rfl ?_
  refine r_rem rfl rfl (by omega) ?_
  refine asI rfl ?_
  refine r_nil ?_
  refine i_then ?_
  refine t_seq ?_
  have hin := tmod_in (a := IntKind.i64.wrap x) (b := (f.bears.length : Nat)) (by rw [wrap_in (by omega)]; omega) (by omega)
  obtain ⟨b, eb⟩ := Int.eq_ofNat_of_zero_le hin.1
  have hb : b < f.bears.length := by omega
  refine t_as (s := 8) rfl (Ty.sub_int eb) ?_
  refine t_region ?_
  refine r_load_ptrN rfl rfl (by decide) rfl rfl (by exact Nat.le_of_ble_eq_true rfl) ?_
  refine mvI rfl ?_
  refine r_call (s_most hp hs hb) rfl rfl rfl rfl rfl ?_
  refine mvT rfl ?_
  refine r_extract rfl rfl ?_
  refine r_extract rfl rfl ?_
  refine asI rfl ?_
  refine asI rfl ?_
  refine r_nil ?_
  refine i_then ?_
  refine t_seq ?_
  refine t_region ?_
  refine r_load_ptrN rfl rfl (by decide) rfl rfl (by exact Nat.le_of_ble_eq_true rfl) ?_
  refine mvI rfl ?_
  refine r_call (s_pays hp hs hb) rfl rfl rfl rfl rfl ?_
  refine mvT rfl ?_
  refine r_extract rfl rfl ?_
  refine r_extract rfl rfl ?_
  refine asS rfl ?_
  refine asI rfl ?_
  refine r_nil ?_
  refine i_then ?_
  refine t_seq ?_
  refine t_seq ?_
  refine t_region ?_
  refine mvI rfl ?_
  refine r_bin rfl rfl rfl ?_
  refine mvB rfl ?_
  apply r_guard (s := 45) rfl rfl rfl
  · intro hg; apply opT_of; (refine mvI rfl ?_); refine r_nil ?_; exact rfl
  · exact rfl
  · exact rfl
  apply r_guard (s := 45) rfl rfl rfl
  · intro hg; apply opT_strip (s := 46) rfl (by (rw [hg]; rfl)); apply opT_of; (refine r_bin rfl rfl rfl ?_); refine r_nil ?_; exact rfl
  · exact rfl
  · exact rfl
  refine r_or rfl rfl ?_
  refine r_nil ?_
  refine i_then ?_
  refine t_cond_ff rfl (rfl) ?_
  refine t_skip ?_
  refine i_then ?_
  refine t_seq ?_
  refine t_region ?_
  refine mvS rfl ?_
  refine r_callG [(51, 10)] [51] [(51, Cont.cells 158 (skTys (skFill t)))] (c_Fill t) rfl rfl (by repeat (first | exact cv_nil | refine cv_cons ?_ ?_ | exact cv_pub rfl rfl)) pre_nil (post_cons (a := 51) (b := 10) (by exact List.mem_cons_self) rfl (cc_cells_eq (by exact List.mem_cons_self) rfl rfl rfl) post_nil) (cv_ptr (by exact List.mem_cons_self)) ?_
  refine asO rfl ?_
  refine r_nil ?_
  refine i_then ?_
  refine t_seq ?_
  refine t_seq ?_
  refine t_region ?_
  refine mvI rfl ?_
  refine r_nil ?_
  refine i_then ?_
  refine t_block ?_
  refine t_loop (fun (x : {x : Nat × Sk // x.1 ≤ 6 ∧ x.2.In x.1}) => live [(7, Ty.ptr 8 0), (8, Ty.int .i64 (b : Nat)), (9, Ty.int .i64 (heavyV f b)), (11, Ty.sl PayE (paysL f b)), (13, Ty.ptr 51 0), (51, Ty.int .i64 (x.1.1 : Nat))] [(8, Cont.cells 27 (flrTys f)), (51, Cont.cells 158 (skTys x.1.2))]) (fun x => 6 - x.1.1) (⟨(0, skFill t), Nat.zero_le _, fill_in t⟩) ?_ fun x => ?_
  · (refine Ent.mk' ?_ ?_ <;> (repeat' (first | exact allSub_zero | exact allTags_nil | refine allSub_succ' ?_ (Ty.sub_any _) | refine allSub_succ' ?_ (Ty.sub_refl _) | refine allTags_cons rfl (Cont.sub_refl _) ?_)))
  ·
    have hx6 := x.2.1
    have hxi := x.2.2
    have hL := tryI_len hp b x.1.1
    refine t_seq ?_
    refine t_region ?_
    refine r_bin rfl rfl rfl ?_
    refine r_nil ?_
    refine i_then ?_
    refine t_seq ?_
    refine t_cond_dec rfl (fun hc2 => ?_) (fun hc2 => ?_)
    ·
      refine t_skip ?_
      refine i_then ?_
      refine t_seq ?_
      refine t_block ?_
      refine t_seq ?_
      refine t_region ?_
      refine mvI rfl ?_
      refine asI rfl ?_
      refine r_nil ?_
      refine i_then ?_
      refine t_seq ?_
      refine t_region ?_
      refine mvS rfl ?_
      refine r_callG [(56, 6)] [56] [] (c_Clone_pay (paysL f b) (by have := tryI_len hp b 1; unfold tryI at this; rw [if_neg (by decide)] at this; omega)) rfl rfl (by repeat (first | exact cv_nil | refine cv_cons ?_ ?_ | exact cv_pub rfl rfl)) pre_nil post_nil (cv_row (by exact List.mem_cons_self)) ?_
      refine asR rfl ?_
      refine r_nil ?_
      refine i_then ?_
      refine t_join (J := live [(7, Ty.ptr 8 0), (8, Ty.int .i64 (b : Nat)), (9, Ty.int .i64 (heavyV f b)), (11, Ty.sl PayE (paysL f b)), (13, Ty.ptr 51 0), (14, Ty.int .i64 (x.1.1 : Nat)), (15, Ty.row PayE 34 56 (tryI f b x.1.1)), (51, Ty.int .i64 (x.1.1 : Nat))] [(8, Cont.cells 27 (flrTys f)), (51, Cont.cells 158 (skTys x.1.2))]) ?_ ?_
      ·
        refine t_seq ?_
        refine t_region ?_
        refine mvI rfl ?_
        refine r_bin rfl rfl rfl ?_
        refine r_nil ?_
        refine i_then ?_
        refine t_cond_dec rfl (fun hc3 => ?_) (fun hc3 => ?_)
        ·
          refine t_region ?_
          refine asX rfl ?_
          refine r_nil ?_
          refine i_join ?_
          (refine Ent.mk' ?_ ?_ <;> (repeat' (first | exact allSub_zero | exact allTags_nil | refine allSub_succ' ?_ (Ty.sub_any _) | refine allSub_succ' ?_ (Ty.sub_refl _) | refine allTags_cons rfl (Cont.sub_refl _) ?_ | refine allSub_succ' ?_ ?_)))
          all_goals exact nil_row_eq (try_none hc3)
        ·
          refine t_skip ?_
          refine i_join ?_
          (refine Ent.mk' ?_ ?_ <;> (repeat' (first | exact allSub_zero | exact allTags_nil | refine allSub_succ' ?_ (Ty.sub_any _) | refine allSub_succ' ?_ (Ty.sub_refl _) | refine allTags_cons rfl (Cont.sub_refl _) ?_ | refine allSub_succ' ?_ ?_)))
          all_goals exact Ty.sub_row (try_some hc3)
      ·
        refine t_seq ?_
        refine t_seq ?_
        refine t_ownC (s := 15) rfl rfl fun c => ?_
        refine t_region ?_
        refine mvC rfl ?_
        refine r_len_rc rfl rfl rfl ?_
        refine mvI rfl ?_
        refine r_nil ?_
        refine i_then ?_
        refine t_block ?_
        refine t_loop (fun (y : {y : Nat × List Pay × Sk // PayI f (tryI f b x.1.1).length x.1.2 y}) => live [(7, Ty.ptr 8 0), (8, Ty.int .i64 (b : Nat)), (9, Ty.int .i64 (heavyV f b)), (11, Ty.sl PayE (paysL f b)), (13, Ty.ptr 51 0), (14, Ty.int .i64 (x.1.1 : Nat)), (15, Ty.rc 56 y.1.2.1.length c), (51, Ty.int .i64 (x.1.1 : Nat)), (59, Ty.int .i64 (tryI f b x.1.1).length), (60, Ty.int .i64 (y.1.1 : Nat))] [(8, Cont.cells 27 (flrTys f)), (51, Cont.cells 158 (skTys y.1.2.2)), (56, Cont.rcv PayE 34 y.1.2.1 c)]) (fun y => (tryI f b x.1.1).length - y.1.1) (⟨(0, tryI f b x.1.1, x.1.2), pay_start hp hb hxi⟩) ?_ fun y => ?_
        · (refine Ent.mk' ?_ ?_ <;> (repeat' (first | exact allSub_zero | exact allTags_nil | refine allSub_succ' ?_ (Ty.sub_any _) | refine allSub_succ' ?_ (Ty.sub_refl _) | refine allTags_cons rfl (Cont.sub_refl _) ?_)))
        ·
          have hy := y.2
          have hyl := hy.le
          have hyn := hy.len
          have hy0 := hy.t0
          have hy1 := hy.t1
          have hx0 := hxi.2
          have hok1 : y.1.2.2.Ok 1 := by unfold Sk.Ok; omega
          have hok2 : (skNext y.1.2.2).Ok 1 := by unfold Sk.Ok; rw [skNext_taken]; omega
          have hok3 : (skNext (skNext y.1.2.2)).Ok 1 := by unfold Sk.Ok; rw [skNext_taken, skNext_taken]; omega
          have hok4 : (skNext (skNext (skNext y.1.2.2))).Ok 1 := by unfold Sk.Ok; rw [skNext_taken, skNext_taken, skNext_taken]; omega
          refine t_seq ?_
          refine t_region ?_
          refine r_bin rfl rfl rfl ?_
          refine r_nil ?_
          refine i_then ?_
          refine t_seq ?_
          refine t_cond_dec rfl (fun hc4 => ?_) (fun hc4 => ?_)
          ·
            refine t_skip ?_
            refine i_then ?_
            refine t_seq ?_
            refine t_block ?_
            refine t_seq ?_
            refine t_region ?_
            refine mvI rfl ?_
            refine asI rfl ?_
            refine r_nil ?_
            refine i_then ?_
            refine t_seq ?_
            refine t_region ?_
            refine mvO rfl ?_
            refine r_callG [(51, 1000)] [] [(51, Cont.cells 158 (skTys (skNext y.1.2.2)))] (c_Rare y.1.2.2 hok1 3) rfl rfl (by repeat (first | exact cv_nil | refine cv_cons ?_ ?_ | exact cv_ptr List.mem_cons_self | exact cv_pub rfl rfl)) (pre_cons (a := 51) (b := 1000) (by exact List.mem_cons_self) rfl (cc_cells_eq (by exact List.mem_cons_self) rfl rfl rfl) pre_nil) (post_cons (a := 51) (b := 1000) (by exact List.mem_cons_self) rfl (cc_cells_eq (by exact List.mem_cons_self) rfl rfl rfl) post_nil) (cv_pub rfl rfl) ?_
            refine r_nil ?_
            refine i_then ?_
            refine t_cond_dec rfl (fun hc5 => ?_) (fun hc5 => ?_)
            ·
              refine t_draw mixed rfl ?_
              refine mvC rfl ?_
              refine mvI rfl ?_
              refine r_index_rc rfl rfl rfl rfl rfl (by omega) ?_
              refine r_field_ptr rfl rfl rfl rfl rfl (by decide) ?_
              refine r_load_rc (E := PayE) (i := y.1.1) (o := 2) (tg := 56) rfl rfl (by decide) rfl rfl (by omega) rfl ?_
              refine mvO rfl ?_
              refine r_callG [(51, 1000)] [] [(51, Cont.cells 158 (skTys (skNext (skNext y.1.2.2))))] (c_Among (skNext y.1.2.2) hok2 (-9) 3 (by omega) (by omega)) rfl rfl (by repeat (first | exact cv_nil | refine cv_cons ?_ ?_ | exact cv_ptr List.mem_cons_self | exact cv_pub rfl rfl)) (pre_cons (a := 51) (b := 1000) (by exact List.mem_cons_self) rfl (cc_cells_eq (by exact List.mem_cons_self) rfl rfl rfl) pre_nil) (post_cons (a := 51) (b := 1000) (by exact List.mem_cons_self) rfl (cc_cells_eq (by exact List.mem_cons_self) rfl rfl rfl) post_nil) (cv_pub rfl rfl) ?_
              refine r_bin rfl rfl rfl ?_
              refine r_index_rc rfl rfl rfl rfl rfl (by omega) ?_
              refine r_field_ptr rfl rfl rfl rfl rfl (by decide) ?_
              refine r_store_rc (E := PayE) (i := y.1.1) (o := 2) (tg := 56) rfl rfl (by decide) rfl rfl rfl rfl (by omega) (by decide) rfl (pay_set _ _) ?_
              refine r_nil ?_
              refine ⟨by kernel_rfl, ?_⟩
              refine i_block ?_
              refine i_then ?_
              refine t_region ?_
              refine r_add rfl rfl (by omega) (by omega) ?_
              refine mvI rfl ?_
              refine r_nil ?_
              refine i_round (⟨(y.1.1 + 1, y.1.2.1.set y.1.1 (drawP y.1.2.2 (nth y.1.2.1 y.1.1)), drawS y.1.2.2), hy.next (by omega)⟩) ?_ (by show (tryI f b x.1.1).length - (y.1.1 + 1) < (tryI f b x.1.1).length - y.1.1; omega)
              (refine Ent.mk' ?_ ?_ <;> (repeat' (first | exact allSub_zero | exact allTags_nil | exact subs_nil | refine allSub_succ' ?_ (Ty.sub_any _) | refine allSub_succ' ?_ (Ty.sub_refl _) | refine allTags_cons rfl (Cont.sub_refl _) ?_ | refine allTags_cons rfl (Cont.sub_subs ?_) ?_ | refine subs_cons ?_ ?_ | refine allTags_cons rfl ?_ ?_ | refine allSub_succ' ?_ ?_)))
              all_goals skip
              all_goals first | exact rc_len (List.length_set ..).symm | exact Ty.sub_int (congrArg Sk.mixed (drawS_yes hc5)) | exact Ty.sub_int (congrArg Sk.taken (drawS_yes hc5)) | exact Ty.sub_sl (congrArg Sk.grain (drawS_yes hc5)) | exact Cont.sub_rcv (drawP_yes hc5)
            ·
              refine t_skip ?_
              refine i_block ?_
              refine i_then ?_
              refine t_region ?_
              refine r_add rfl rfl (by omega) (by omega) ?_
              refine mvI rfl ?_
              refine r_nil ?_
              refine i_round (⟨(y.1.1 + 1, y.1.2.1.set y.1.1 (drawP y.1.2.2 (nth y.1.2.1 y.1.1)), drawS y.1.2.2), hy.next (by omega)⟩) ?_ (by show (tryI f b x.1.1).length - (y.1.1 + 1) < (tryI f b x.1.1).length - y.1.1; omega)
              (refine Ent.mk' ?_ ?_ <;> (repeat' (first | exact allSub_zero | exact allTags_nil | exact subs_nil | refine allSub_succ' ?_ (Ty.sub_any _) | refine allSub_succ' ?_ (Ty.sub_refl _) | refine allTags_cons rfl (Cont.sub_refl _) ?_ | refine allTags_cons rfl (Cont.sub_subs ?_) ?_ | refine subs_cons ?_ ?_ | refine allTags_cons rfl ?_ ?_ | refine allSub_succ' ?_ ?_)))
              all_goals skip
              all_goals first | exact rc_len (List.length_set ..).symm | exact Ty.sub_int (congrArg Sk.mixed (drawS_no hc5)) | exact Ty.sub_int (congrArg Sk.taken (drawS_no hc5)) | exact Ty.sub_sl (congrArg Sk.grain (drawS_no hc5)) | exact Cont.sub_rcv (drawP_no hc5)
          ·
            refine t_exit ?_
            refine i_then_exit ?_
            refine i_then_exit ?_
            refine i_block_exit rfl ?_
            refine i_then ?_
            refine t_seq ?_
            refine t_seq ?_
            refine t_unownC (s := 15) rfl (by decide) rfl rfl ?_
            refine t_region ?_
            refine r_field_ptr rfl rfl rfl rfl rfl (by decide) ?_
            refine r_load_ptr rfl rfl (by decide) rfl rfl rfl ?_
            refine r_len rfl rfl rfl ?_
            refine asI rfl ?_
            refine r_nil ?_
            refine i_then ?_
            refine t_seq ?_
            refine t_region ?_
            refine mvI rfl ?_
            refine r_bin rfl rfl rfl ?_
            cases hsp : (decide ((0 : Int) < (f.turnings.length : Int)))
            ·
              refine mvB rfl ?_
              refine r_off rfl rfl rfl rfl ?_
              refine r_off rfl rfl rfl rfl ?_
              refine r_pick0 rfl ?_
              refine r_nil ?_
              refine i_then ?_
              refine t_cond_ff rfl (rfl) ?_
              refine t_skip ?_
              refine i_then ?_
              refine t_seq ?_
              refine t_region ?_
              refine r_load_ptrN rfl rfl (by decide) rfl rfl (by exact Nat.le_of_ble_eq_true rfl) ?_
              refine mvI rfl ?_
              refine mvR rfl ?_
              refine r_callL [56] (c_Bounds f hs (b : Nat) y.1.2.1 (by omega)) rfl (by repeat (first | exact lends_nil | refine lends_cons (lend_pub rfl rfl) ?_ | refine lends_cons (lend_row rfl) ?_)) (by exact plain_tup (by repeat (first | exact plain_nil | refine plain_cons (by exact plain_int _ _) ?_))) ?_
              refine mvT rfl ?_
              refine r_extract rfl rfl ?_
              refine r_extract rfl rfl ?_
              refine asI rfl ?_
              refine asI rfl ?_
              refine r_nil ?_
              refine i_then ?_
              refine t_seq ?_
              refine t_region ?_
              refine r_load_ptrN rfl rfl (by decide) rfl rfl (by exact Nat.le_of_ble_eq_true rfl) ?_
              refine mvI rfl ?_
              refine mvR rfl ?_
              refine r_callL [56] (c_bound5 f hp b hb y.1.2.1 (by omega)) rfl (by repeat (first | exact lends_nil | refine lends_cons (lend_pub rfl rfl) ?_ | refine lends_cons (lend_row rfl) ?_)) (by exact plain_tup (by repeat (first | exact plain_nil | refine plain_cons (by first | exact plain_int _ _ | exact plain_bool _) ?_))) ?_
              refine mvT rfl ?_
              refine r_extract rfl rfl ?_
              refine r_extract rfl rfl ?_
              refine asI rfl ?_
              refine asB rfl ?_
              refine r_nil ?_
              refine i_then ?_
              refine t_seq ?_
              refine t_region ?_
              refine mvI rfl ?_
              refine r_bin rfl rfl rfl ?_
              refine mvB rfl ?_
              refine r_neq_B und4 rfl rfl ?_
              refine mvB rfl ?_
              apply r_guard (s := 115) rfl rfl rfl
              · intro hg; apply opT_of; (refine mvI rfl ?_); refine r_nil ?_; exact rfl
              · exact rfl
              · exact rfl
              apply r_guard (s := 115) rfl rfl rfl
              · intro hg; apply opT_strip (s := 116) rfl (by (rw [hg]; rfl)); apply opT_of; (refine r_bin rfl rfl rfl ?_); refine r_nil ?_; exact rfl
              · exact rfl
              · exact rfl
              apply r_guard (s := 115) rfl rfl rfl
              · intro hg; apply opT_strip (s := 117) rfl (by (rw [hg]; rfl)); apply opT_of; (refine mvB rfl ?_); refine r_nil ?_; exact rfl
              · exact rfl
              · exact rfl
              apply r_guardG (s := 118) rfl rfl rfl
              · intro hg1 hg2; apply opT_of; (refine mvI rfl ?_); refine r_nil ?_; exact rfl
              · exact rfl
              · exact rfl
              apply r_guardG (s := 118) rfl rfl rfl
              · intro hg1 hg2; apply opT_strip (s := 119) rfl (by (rw [hg1, hg2]; rfl)); apply opT_of; (refine r_bin rfl rfl rfl ?_); refine r_nil ?_; exact rfl
              · exact rfl
              · exact rfl
              apply r_guard (s := 115) rfl rfl rfl
              · intro hg; apply opT_strip (s := 118) rfl (by (rw [hg]; rfl)); apply opT_stripG (s := 120) rfl (by (rw [hg]; rfl)); apply opT_of; (refine r_and rfl rfl ?_); refine r_nil ?_; exact rfl
              · exact rfl
              · exact rfl
              apply r_guard (s := 115) rfl rfl rfl
              · intro hg; apply opT_strip (s := 121) rfl (by (rw [hg]; rfl)); apply opT_of; (refine mvB rfl ?_); refine r_nil ?_; exact rfl
              · exact rfl
              · exact rfl
              apply r_guardG (s := 122) rfl rfl rfl
              · intro hg1 hg2; apply opT_of; (refine mvI rfl ?_); refine r_nil ?_; exact rfl
              · exact rfl
              · exact rfl
              apply r_guardG (s := 122) rfl rfl rfl
              · intro hg1 hg2; apply opT_strip (s := 123) rfl (by (rw [hg1, hg2]; rfl)); apply opT_of; (refine r_bin rfl rfl rfl ?_); refine r_nil ?_; exact rfl
              · exact rfl
              · exact rfl
              apply r_guard (s := 115) rfl rfl rfl
              · intro hg; apply opT_strip (s := 122) rfl (by (rw [hg]; rfl)); apply opT_stripG (s := 124) rfl (by (rw [hg]; rfl)); apply opT_of; (refine r_and rfl rfl ?_); refine r_nil ?_; exact rfl
              · exact rfl
              · exact rfl
              apply r_guard (s := 115) rfl rfl rfl
              · intro hg; apply opT_strip (s := 125) rfl (by (rw [hg]; rfl)); apply opT_of; (refine mvB rfl ?_); refine r_nil ?_; exact rfl
              · exact rfl
              · exact rfl
              apply r_guardG (s := 126) rfl rfl rfl
              · intro hg1 hg2; apply opT_of; (refine mvI rfl ?_); refine r_nil ?_; exact rfl
              · exact rfl
              · exact rfl
              apply r_guardG (s := 126) rfl rfl rfl
              · intro hg1 hg2; apply opT_strip (s := 127) rfl (by (rw [hg1, hg2]; rfl)); apply opT_of; (refine r_bin rfl rfl rfl ?_); refine r_nil ?_; exact rfl
              · exact rfl
              · exact rfl
              apply r_guard (s := 115) rfl rfl rfl
              · intro hg; apply opT_strip (s := 126) rfl (by (rw [hg]; rfl)); apply opT_stripG (s := 128) rfl (by (rw [hg]; rfl)); apply opT_of; (refine r_and rfl rfl ?_); refine r_nil ?_; exact rfl
              · exact rfl
              · exact rfl
              refine r_or rfl rfl ?_
              refine mvB rfl ?_
              apply r_guard (s := 131) rfl rfl rfl
              · intro hg; apply opT_of; (refine mvB rfl ?_); refine r_nil ?_; exact rfl
              · exact rfl
              · exact rfl
              apply r_guard (s := 131) rfl rfl rfl
              · intro hg; apply opT_strip (s := 132) rfl (by (rw [hg]; rfl)); apply opT_of; (refine mvB rfl ?_); refine r_nil ?_; exact rfl
              · exact rfl
              · exact rfl
              apply r_guardG (s := 133) rfl rfl rfl
              · intro hg1 hg2; apply opT_of; (refine mvI rfl ?_); refine r_nil ?_; exact rfl
              · exact rfl
              · exact rfl
              apply r_guardG (s := 133) rfl rfl rfl
              · intro hg1 hg2; apply opT_of; (refine mvI rfl ?_); refine r_nil ?_; exact rfl
              · exact rfl
              · exact rfl
              apply r_guardG (s := 133) rfl rfl rfl
              · intro hg1 hg2; apply opT_strip (s := 134) rfl (by (rw [hg1, hg2]; rfl)); apply opT_strip (s := 135) rfl (by (rw [hg1, hg2]; rfl)); apply opT_of; (refine r_bin rfl rfl rfl ?_); refine r_nil ?_; exact rfl
              · exact rfl
              · exact rfl
              apply r_guardG (s := 133) rfl rfl rfl
              · intro hg1 hg2; apply opT_strip (s := 136) rfl (by (rw [hg1, hg2]; rfl)); apply opT_of; (refine mvB rfl ?_); refine r_nil ?_; exact rfl
              · exact rfl
              · exact rfl
              apply r_guardG (s := 137) rfl rfl rfl
              · intro hg1 hg2; apply opT_of; (refine mvI rfl ?_); refine r_nil ?_; exact rfl
              · exact rfl
              · exact rfl
              apply r_guardG (s := 137) rfl rfl rfl
              · intro hg1 hg2; apply opT_of; (refine mvI rfl ?_); refine r_nil ?_; exact rfl
              · exact rfl
              · exact rfl
              apply r_guardG (s := 137) rfl rfl rfl
              · intro hg1 hg2; apply opT_strip (s := 138) rfl (by (rw [hg1, hg2]; rfl)); apply opT_strip (s := 139) rfl (by (rw [hg1, hg2]; rfl)); apply opT_of; (refine r_bin rfl rfl rfl ?_); refine r_nil ?_; exact rfl
              · exact rfl
              · exact rfl
              apply r_guardG (s := 133) rfl rfl rfl
              · intro hg1 hg2; apply opT_strip (s := 137) rfl (by (rw [hg1, hg2]; rfl)); apply opT_stripG (s := 140) rfl (by (rw [hg1, hg2]; rfl)); apply opT_of; (refine r_or rfl rfl ?_); refine r_nil ?_; exact rfl
              · exact rfl
              · exact rfl
              apply r_guard (s := 131) rfl rfl rfl
              · intro hg; apply opT_strip (s := 133) rfl (by (rw [hg]; rfl)); apply opT_stripG (s := 141) rfl (by (rw [hg]; rfl)); apply opT_of; (refine r_and rfl rfl ?_); refine r_nil ?_; exact rfl
              · exact rfl
              · exact rfl
              refine r_or rfl rfl ?_
              refine r_nil ?_
              refine i_then ?_
              refine t_cond_ff rfl (by exact paid_cut (paid_law hp hb hy.rng)) ?_
              refine t_skip ?_
              refine i_block ?_
              refine i_then ?_
              refine t_region ?_
              refine r_add rfl rfl (by omega) (by omega) ?_
              refine mvI rfl ?_
              refine r_nil ?_
              refine i_round (⟨(x.1.1 + 1, endS f.turnings.length y.1.2.2), by show x.1.1 + 1 ≤ 6; omega, end_in hxi hL hy⟩) ?_ (by show 6 - (x.1.1 + 1) < 6 - x.1.1; omega)
              (refine Ent.mk' ?_ ?_ <;> (repeat' (first | exact allSub_zero | exact allTags_nil | exact subs_nil | refine allSub_succ' ?_ (Ty.sub_any _) | refine allSub_succ' ?_ (Ty.sub_refl _) | refine allTags_cons rfl (Cont.sub_refl _) ?_ | refine allTags_cons rfl (Cont.sub_subs ?_) ?_ | refine subs_cons ?_ ?_)))
              all_goals skip
              all_goals first | exact Ty.sub_int (congrArg Sk.mixed (endS_zero hsp)) | exact Ty.sub_int (congrArg Sk.taken (endS_zero hsp)) | exact Ty.sub_sl (congrArg Sk.grain (endS_zero hsp))
            ·
              refine mvB rfl ?_
              (refine r_on rfl rfl rfl (by apply opT_of; (refine mvO rfl ?_); refine r_nil ?_; exact rfl) ?_)
              (refine r_on rfl rfl rfl (by apply opT_of; (refine r_callG [(51, 1000)] [] [(51, Cont.cells 158 (skTys (skNext y.1.2.2)))] (c_Rare y.1.2.2 hok1 3) rfl rfl (by repeat (first | exact cv_nil | refine cv_cons ?_ ?_ | exact cv_ptr List.mem_cons_self | exact cv_pub rfl rfl)) (pre_cons (a := 51) (b := 1000) (by exact List.mem_cons_self) rfl (cc_cells_eq (by exact List.mem_cons_self) rfl rfl rfl) pre_nil) (post_cons (a := 51) (b := 1000) (by exact List.mem_cons_self) rfl (cc_cells_eq (by exact List.mem_cons_self) rfl rfl rfl) post_nil) (cv_pub rfl rfl) ?_); refine r_nil ?_; exact rfl) ?_)
              refine r_pick1 rfl rfl ?_
              refine r_nil ?_
              refine i_then ?_
              refine t_cond_dec rfl (fun hc8 => ?_) (fun hc8 => ?_)
              ·
                refine t_region ?_
                refine mvR rfl ?_
                refine mvO rfl ?_
                refine mvI rfl ?_
                refine r_callG [(51, 1000)] [] [(51, Cont.cells 158 (skTys (skNext (skNext y.1.2.2))))] (c_Below (skNext y.1.2.2) hok2 _) rfl rfl (by repeat (first | exact cv_nil | refine cv_cons ?_ ?_ | exact cv_ptr List.mem_cons_self | exact cv_pub rfl rfl)) (pre_cons (a := 51) (b := 1000) (by exact List.mem_cons_self) rfl (cc_cells_eq (by exact List.mem_cons_self) rfl rfl rfl) pre_nil) (post_cons (a := 51) (b := 1000) (by exact List.mem_cons_self) rfl (cc_cells_eq (by exact List.mem_cons_self) rfl rfl rfl) post_nil) (cv_pub rfl rfl) ?_
                refine mvO rfl ?_
                refine mvI rfl ?_
                refine r_callG [(51, 1000)] [] [(51, Cont.cells 158 (skTys (skNext (skNext (skNext y.1.2.2)))))] (c_Below (skNext (skNext y.1.2.2)) hok3 _) rfl rfl (by repeat (first | exact cv_nil | refine cv_cons ?_ ?_ | exact cv_ptr List.mem_cons_self | exact cv_pub rfl rfl)) (pre_cons (a := 51) (b := 1000) (by exact List.mem_cons_self) rfl (cc_cells_eq (by exact List.mem_cons_self) rfl rfl rfl) pre_nil) (post_cons (a := 51) (b := 1000) (by exact List.mem_cons_self) rfl (cc_cells_eq (by exact List.mem_cons_self) rfl rfl rfl) post_nil) (cv_pub rfl rfl) ?_
                refine mvO rfl ?_
                refine r_callG [(51, 1000)] [] [(51, Cont.cells 158 (skTys (skNext (skNext (skNext (skNext y.1.2.2))))))] (c_Among (skNext (skNext (skNext y.1.2.2))) hok4 0 9 (by omega) (by omega)) rfl rfl (by repeat (first | exact cv_nil | refine cv_cons ?_ ?_ | exact cv_ptr List.mem_cons_self | exact cv_pub rfl rfl)) (pre_cons (a := 51) (b := 1000) (by exact List.mem_cons_self) rfl (cc_cells_eq (by exact List.mem_cons_self) rfl rfl rfl) pre_nil) (post_cons (a := 51) (b := 1000) (by exact List.mem_cons_self) rfl (cc_cells_eq (by exact List.mem_cons_self) rfl rfl rfl) post_nil) (cv_pub rfl rfl) ?_
                refine r_build rfl rfl (by exact List.cons_ne_nil _ _) rfl (by repeat (first | exact (Parts.nil : Parts _ _ [] _) | (show Parts _ _ ((_, _) :: _) _; apply Parts.one; (· exact (rfl : _ = Ty.int _ _)); (· exact rfl)))) (by exact (rfl : _ = some [_, _, _])) ?_
                refine r_buildSlice (E := PayE) (xs := [newP f.turnings.length y.1.2.2]) rfl rfl rfl rfl rfl (by decide) (by decide) (by repeat (first | exact (Parts.nil : Parts _ _ [] _) | (show Parts _ _ ((_, _) :: _) _; apply Parts.agg; (· exact (rfl : _ = Ty.agg _))))) (by exact rfl) rfl ?_
                refine r_append rfl rfl (by decide) rfl rfl rfl rfl rfl rfl (by decide) (by show (y.1.2.1.length + 1) * 24 ≤ _; omega) (by show y.1.2.1.length + 1 ≤ _; omega) ?_
                refine asR rfl ?_
                refine r_nil ?_
                refine i_then ?_
                refine t_seq ?_
                refine t_region ?_
                refine r_load_ptrN rfl rfl (by decide) rfl rfl (by exact Nat.le_of_ble_eq_true rfl) ?_
                refine mvI rfl ?_
                refine mvR rfl ?_
                (have hk8 : skBelow y.1.2.2 3 = 0 := hc8; refine r_callL [56] (c_Bounds f hs (b : Nat) (y.1.2.1 ++ [newP f.turnings.length y.1.2.2]) (new_len (by omega) _)) rfl (by repeat (first | exact lends_nil | refine lends_cons (lend_pub rfl rfl) ?_ | refine lends_cons (lend_row rfl) ?_)) (by exact plain_tup (by repeat (first | exact plain_nil | refine plain_cons (by exact plain_int _ _) ?_))) ?_)
                refine mvT rfl ?_
                refine r_extract rfl rfl ?_
                refine r_extract rfl rfl ?_
                refine asI rfl ?_
                refine asI rfl ?_
                refine r_nil ?_
                refine i_then ?_
                refine t_seq ?_
                refine t_region ?_
                refine r_load_ptrN rfl rfl (by decide) rfl rfl (by exact Nat.le_of_ble_eq_true rfl) ?_
                refine mvI rfl ?_
                refine mvR rfl ?_
                (have hk8 : skBelow y.1.2.2 3 = 0 := hc8; refine r_callL [56] (c_bound5 f hp b hb (y.1.2.1 ++ [newP f.turnings.length y.1.2.2]) (new_len (by omega) _)) rfl (by repeat (first | exact lends_nil | refine lends_cons (lend_pub rfl rfl) ?_ | refine lends_cons (lend_row rfl) ?_)) (by exact plain_tup (by repeat (first | exact plain_nil | refine plain_cons (by first | exact plain_int _ _ | exact plain_bool _) ?_))) ?_)
                refine mvT rfl ?_
                refine r_extract rfl rfl ?_
                refine r_extract rfl rfl ?_
                refine asI rfl ?_
                refine asB rfl ?_
                refine r_nil ?_
                refine i_then ?_
                refine t_seq ?_
                refine t_region ?_
                refine mvI rfl ?_
                refine r_bin rfl rfl rfl ?_
                refine mvB rfl ?_
                refine r_neq_B und4 rfl rfl ?_
                refine mvB rfl ?_
                apply r_guard (s := 115) rfl rfl rfl
                · intro hg; apply opT_of; (refine mvI rfl ?_); refine r_nil ?_; exact rfl
                · exact rfl
                · exact rfl
                apply r_guard (s := 115) rfl rfl rfl
                · intro hg; apply opT_strip (s := 116) rfl (by (rw [hg]; rfl)); apply opT_of; (refine r_bin rfl rfl rfl ?_); refine r_nil ?_; exact rfl
                · exact rfl
                · exact rfl
                apply r_guard (s := 115) rfl rfl rfl
                · intro hg; apply opT_strip (s := 117) rfl (by (rw [hg]; rfl)); apply opT_of; (refine mvB rfl ?_); refine r_nil ?_; exact rfl
                · exact rfl
                · exact rfl
                apply r_guardG (s := 118) rfl rfl rfl
                · intro hg1 hg2; apply opT_of; (refine mvI rfl ?_); refine r_nil ?_; exact rfl
                · exact rfl
                · exact rfl
                apply r_guardG (s := 118) rfl rfl rfl
                · intro hg1 hg2; apply opT_strip (s := 119) rfl (by (rw [hg1, hg2]; rfl)); apply opT_of; (refine r_bin rfl rfl rfl ?_); refine r_nil ?_; exact rfl
                · exact rfl
                · exact rfl
                apply r_guard (s := 115) rfl rfl rfl
                · intro hg; apply opT_strip (s := 118) rfl (by (rw [hg]; rfl)); apply opT_stripG (s := 120) rfl (by (rw [hg]; rfl)); apply opT_of; (refine r_and rfl rfl ?_); refine r_nil ?_; exact rfl
                · exact rfl
                · exact rfl
                apply r_guard (s := 115) rfl rfl rfl
                · intro hg; apply opT_strip (s := 121) rfl (by (rw [hg]; rfl)); apply opT_of; (refine mvB rfl ?_); refine r_nil ?_; exact rfl
                · exact rfl
                · exact rfl
                apply r_guardG (s := 122) rfl rfl rfl
                · intro hg1 hg2; apply opT_of; (refine mvI rfl ?_); refine r_nil ?_; exact rfl
                · exact rfl
                · exact rfl
                apply r_guardG (s := 122) rfl rfl rfl
                · intro hg1 hg2; apply opT_strip (s := 123) rfl (by (rw [hg1, hg2]; rfl)); apply opT_of; (refine r_bin rfl rfl rfl ?_); refine r_nil ?_; exact rfl
                · exact rfl
                · exact rfl
                apply r_guard (s := 115) rfl rfl rfl
                · intro hg; apply opT_strip (s := 122) rfl (by (rw [hg]; rfl)); apply opT_stripG (s := 124) rfl (by (rw [hg]; rfl)); apply opT_of; (refine r_and rfl rfl ?_); refine r_nil ?_; exact rfl
                · exact rfl
                · exact rfl
                apply r_guard (s := 115) rfl rfl rfl
                · intro hg; apply opT_strip (s := 125) rfl (by (rw [hg]; rfl)); apply opT_of; (refine mvB rfl ?_); refine r_nil ?_; exact rfl
                · exact rfl
                · exact rfl
                apply r_guardG (s := 126) rfl rfl rfl
                · intro hg1 hg2; apply opT_of; (refine mvI rfl ?_); refine r_nil ?_; exact rfl
                · exact rfl
                · exact rfl
                apply r_guardG (s := 126) rfl rfl rfl
                · intro hg1 hg2; apply opT_strip (s := 127) rfl (by (rw [hg1, hg2]; rfl)); apply opT_of; (refine r_bin rfl rfl rfl ?_); refine r_nil ?_; exact rfl
                · exact rfl
                · exact rfl
                apply r_guard (s := 115) rfl rfl rfl
                · intro hg; apply opT_strip (s := 126) rfl (by (rw [hg]; rfl)); apply opT_stripG (s := 128) rfl (by (rw [hg]; rfl)); apply opT_of; (refine r_and rfl rfl ?_); refine r_nil ?_; exact rfl
                · exact rfl
                · exact rfl
                refine r_or rfl rfl ?_
                refine mvB rfl ?_
                apply r_guard (s := 131) rfl rfl rfl
                · intro hg; apply opT_of; (refine mvB rfl ?_); refine r_nil ?_; exact rfl
                · exact rfl
                · exact rfl
                apply r_guard (s := 131) rfl rfl rfl
                · intro hg; apply opT_strip (s := 132) rfl (by (rw [hg]; rfl)); apply opT_of; (refine mvB rfl ?_); refine r_nil ?_; exact rfl
                · exact rfl
                · exact rfl
                apply r_guardG (s := 133) rfl rfl rfl
                · intro hg1 hg2; apply opT_of; (refine mvI rfl ?_); refine r_nil ?_; exact rfl
                · exact rfl
                · exact rfl
                apply r_guardG (s := 133) rfl rfl rfl
                · intro hg1 hg2; apply opT_of; (refine mvI rfl ?_); refine r_nil ?_; exact rfl
                · exact rfl
                · exact rfl
                apply r_guardG (s := 133) rfl rfl rfl
                · intro hg1 hg2; apply opT_strip (s := 134) rfl (by (rw [hg1, hg2]; rfl)); apply opT_strip (s := 135) rfl (by (rw [hg1, hg2]; rfl)); apply opT_of; (refine r_bin rfl rfl rfl ?_); refine r_nil ?_; exact rfl
                · exact rfl
                · exact rfl
                apply r_guardG (s := 133) rfl rfl rfl
                · intro hg1 hg2; apply opT_strip (s := 136) rfl (by (rw [hg1, hg2]; rfl)); apply opT_of; (refine mvB rfl ?_); refine r_nil ?_; exact rfl
                · exact rfl
                · exact rfl
                apply r_guardG (s := 137) rfl rfl rfl
                · intro hg1 hg2; apply opT_of; (refine mvI rfl ?_); refine r_nil ?_; exact rfl
                · exact rfl
                · exact rfl
                apply r_guardG (s := 137) rfl rfl rfl
                · intro hg1 hg2; apply opT_of; (refine mvI rfl ?_); refine r_nil ?_; exact rfl
                · exact rfl
                · exact rfl
                apply r_guardG (s := 137) rfl rfl rfl
                · intro hg1 hg2; apply opT_strip (s := 138) rfl (by (rw [hg1, hg2]; rfl)); apply opT_strip (s := 139) rfl (by (rw [hg1, hg2]; rfl)); apply opT_of; (refine r_bin rfl rfl rfl ?_); refine r_nil ?_; exact rfl
                · exact rfl
                · exact rfl
                apply r_guardG (s := 133) rfl rfl rfl
                · intro hg1 hg2; apply opT_strip (s := 137) rfl (by (rw [hg1, hg2]; rfl)); apply opT_stripG (s := 140) rfl (by (rw [hg1, hg2]; rfl)); apply opT_of; (refine r_or rfl rfl ?_); refine r_nil ?_; exact rfl
                · exact rfl
                · exact rfl
                apply r_guard (s := 131) rfl rfl rfl
                · intro hg; apply opT_strip (s := 133) rfl (by (rw [hg]; rfl)); apply opT_stripG (s := 141) rfl (by (rw [hg]; rfl)); apply opT_of; (refine r_and rfl rfl ?_); refine r_nil ?_; exact rfl
                · exact rfl
                · exact rfl
                refine r_or rfl rfl ?_
                refine r_nil ?_
                refine i_then ?_
                refine t_cond_ff rfl (by exact paid_cut (paid_law hp hb (new_in hy.rng hsp _))) ?_
                refine t_skip ?_
                refine i_block ?_
                refine i_then ?_
                refine t_region ?_
                refine r_add rfl rfl (by omega) (by omega) ?_
                refine mvI rfl ?_
                refine r_nil ?_
                refine i_round (⟨(x.1.1 + 1, endS f.turnings.length y.1.2.2), by show x.1.1 + 1 ≤ 6; omega, end_in hxi hL hy⟩) ?_ (by show 6 - (x.1.1 + 1) < 6 - x.1.1; omega)
                (refine Ent.mk' ?_ ?_ <;> (repeat' (first | exact allSub_zero | exact allTags_nil | exact subs_nil | refine allSub_succ' ?_ (Ty.sub_any _) | refine allSub_succ' ?_ (Ty.sub_refl _) | refine allTags_cons rfl (Cont.sub_refl _) ?_ | refine allTags_cons rfl (Cont.sub_subs ?_) ?_ | refine subs_cons ?_ ?_)))
                all_goals skip
                all_goals first | exact Ty.sub_int (congrArg Sk.mixed (endS_yes hsp hc8)) | exact Ty.sub_int (congrArg Sk.taken (endS_yes hsp hc8)) | exact Ty.sub_sl (congrArg Sk.grain (endS_yes hsp hc8))
              ·
                refine t_skip ?_
                refine i_then ?_
                refine t_seq ?_
                refine t_region ?_
                refine r_load_ptrN rfl rfl (by decide) rfl rfl (by exact Nat.le_of_ble_eq_true rfl) ?_
                refine mvI rfl ?_
                refine mvR rfl ?_
                refine r_callL [56] (c_Bounds f hs (b : Nat) y.1.2.1 (by omega)) rfl (by repeat (first | exact lends_nil | refine lends_cons (lend_pub rfl rfl) ?_ | refine lends_cons (lend_row rfl) ?_)) (by exact plain_tup (by repeat (first | exact plain_nil | refine plain_cons (by exact plain_int _ _) ?_))) ?_
                refine mvT rfl ?_
                refine r_extract rfl rfl ?_
                refine r_extract rfl rfl ?_
                refine asI rfl ?_
                refine asI rfl ?_
                refine r_nil ?_
                refine i_then ?_
                refine t_seq ?_
                refine t_region ?_
                refine r_load_ptrN rfl rfl (by decide) rfl rfl (by exact Nat.le_of_ble_eq_true rfl) ?_
                refine mvI rfl ?_
                refine mvR rfl ?_
                refine r_callL [56] (c_bound5 f hp b hb y.1.2.1 (by omega)) rfl (by repeat (first | exact lends_nil | refine lends_cons (lend_pub rfl rfl) ?_ | refine lends_cons (lend_row rfl) ?_)) (by exact plain_tup (by repeat (first | exact plain_nil | refine plain_cons (by first | exact plain_int _ _ | exact plain_bool _) ?_))) ?_
                refine mvT rfl ?_
                refine r_extract rfl rfl ?_
                refine r_extract rfl rfl ?_
                refine asI rfl ?_
                refine asB rfl ?_
                refine r_nil ?_
                refine i_then ?_
                refine t_seq ?_
                refine t_region ?_
                refine mvI rfl ?_
                refine r_bin rfl rfl rfl ?_
                refine mvB rfl ?_
                refine r_neq_B und4 rfl rfl ?_
                refine mvB rfl ?_
                apply r_guard (s := 115) rfl rfl rfl
                · intro hg; apply opT_of; (refine mvI rfl ?_); refine r_nil ?_; exact rfl
                · exact rfl
                · exact rfl
                apply r_guard (s := 115) rfl rfl rfl
                · intro hg; apply opT_strip (s := 116) rfl (by (rw [hg]; rfl)); apply opT_of; (refine r_bin rfl rfl rfl ?_); refine r_nil ?_; exact rfl
                · exact rfl
                · exact rfl
                apply r_guard (s := 115) rfl rfl rfl
                · intro hg; apply opT_strip (s := 117) rfl (by (rw [hg]; rfl)); apply opT_of; (refine mvB rfl ?_); refine r_nil ?_; exact rfl
                · exact rfl
                · exact rfl
                apply r_guardG (s := 118) rfl rfl rfl
                · intro hg1 hg2; apply opT_of; (refine mvI rfl ?_); refine r_nil ?_; exact rfl
                · exact rfl
                · exact rfl
                apply r_guardG (s := 118) rfl rfl rfl
                · intro hg1 hg2; apply opT_strip (s := 119) rfl (by (rw [hg1, hg2]; rfl)); apply opT_of; (refine r_bin rfl rfl rfl ?_); refine r_nil ?_; exact rfl
                · exact rfl
                · exact rfl
                apply r_guard (s := 115) rfl rfl rfl
                · intro hg; apply opT_strip (s := 118) rfl (by (rw [hg]; rfl)); apply opT_stripG (s := 120) rfl (by (rw [hg]; rfl)); apply opT_of; (refine r_and rfl rfl ?_); refine r_nil ?_; exact rfl
                · exact rfl
                · exact rfl
                apply r_guard (s := 115) rfl rfl rfl
                · intro hg; apply opT_strip (s := 121) rfl (by (rw [hg]; rfl)); apply opT_of; (refine mvB rfl ?_); refine r_nil ?_; exact rfl
                · exact rfl
                · exact rfl
                apply r_guardG (s := 122) rfl rfl rfl
                · intro hg1 hg2; apply opT_of; (refine mvI rfl ?_); refine r_nil ?_; exact rfl
                · exact rfl
                · exact rfl
                apply r_guardG (s := 122) rfl rfl rfl
                · intro hg1 hg2; apply opT_strip (s := 123) rfl (by (rw [hg1, hg2]; rfl)); apply opT_of; (refine r_bin rfl rfl rfl ?_); refine r_nil ?_; exact rfl
                · exact rfl
                · exact rfl
                apply r_guard (s := 115) rfl rfl rfl
                · intro hg; apply opT_strip (s := 122) rfl (by (rw [hg]; rfl)); apply opT_stripG (s := 124) rfl (by (rw [hg]; rfl)); apply opT_of; (refine r_and rfl rfl ?_); refine r_nil ?_; exact rfl
                · exact rfl
                · exact rfl
                apply r_guard (s := 115) rfl rfl rfl
                · intro hg; apply opT_strip (s := 125) rfl (by (rw [hg]; rfl)); apply opT_of; (refine mvB rfl ?_); refine r_nil ?_; exact rfl
                · exact rfl
                · exact rfl
                apply r_guardG (s := 126) rfl rfl rfl
                · intro hg1 hg2; apply opT_of; (refine mvI rfl ?_); refine r_nil ?_; exact rfl
                · exact rfl
                · exact rfl
                apply r_guardG (s := 126) rfl rfl rfl
                · intro hg1 hg2; apply opT_strip (s := 127) rfl (by (rw [hg1, hg2]; rfl)); apply opT_of; (refine r_bin rfl rfl rfl ?_); refine r_nil ?_; exact rfl
                · exact rfl
                · exact rfl
                apply r_guard (s := 115) rfl rfl rfl
                · intro hg; apply opT_strip (s := 126) rfl (by (rw [hg]; rfl)); apply opT_stripG (s := 128) rfl (by (rw [hg]; rfl)); apply opT_of; (refine r_and rfl rfl ?_); refine r_nil ?_; exact rfl
                · exact rfl
                · exact rfl
                refine r_or rfl rfl ?_
                refine mvB rfl ?_
                apply r_guard (s := 131) rfl rfl rfl
                · intro hg; apply opT_of; (refine mvB rfl ?_); refine r_nil ?_; exact rfl
                · exact rfl
                · exact rfl
                apply r_guard (s := 131) rfl rfl rfl
                · intro hg; apply opT_strip (s := 132) rfl (by (rw [hg]; rfl)); apply opT_of; (refine mvB rfl ?_); refine r_nil ?_; exact rfl
                · exact rfl
                · exact rfl
                apply r_guardG (s := 133) rfl rfl rfl
                · intro hg1 hg2; apply opT_of; (refine mvI rfl ?_); refine r_nil ?_; exact rfl
                · exact rfl
                · exact rfl
                apply r_guardG (s := 133) rfl rfl rfl
                · intro hg1 hg2; apply opT_of; (refine mvI rfl ?_); refine r_nil ?_; exact rfl
                · exact rfl
                · exact rfl
                apply r_guardG (s := 133) rfl rfl rfl
                · intro hg1 hg2; apply opT_strip (s := 134) rfl (by (rw [hg1, hg2]; rfl)); apply opT_strip (s := 135) rfl (by (rw [hg1, hg2]; rfl)); apply opT_of; (refine r_bin rfl rfl rfl ?_); refine r_nil ?_; exact rfl
                · exact rfl
                · exact rfl
                apply r_guardG (s := 133) rfl rfl rfl
                · intro hg1 hg2; apply opT_strip (s := 136) rfl (by (rw [hg1, hg2]; rfl)); apply opT_of; (refine mvB rfl ?_); refine r_nil ?_; exact rfl
                · exact rfl
                · exact rfl
                apply r_guardG (s := 137) rfl rfl rfl
                · intro hg1 hg2; apply opT_of; (refine mvI rfl ?_); refine r_nil ?_; exact rfl
                · exact rfl
                · exact rfl
                apply r_guardG (s := 137) rfl rfl rfl
                · intro hg1 hg2; apply opT_of; (refine mvI rfl ?_); refine r_nil ?_; exact rfl
                · exact rfl
                · exact rfl
                apply r_guardG (s := 137) rfl rfl rfl
                · intro hg1 hg2; apply opT_strip (s := 138) rfl (by (rw [hg1, hg2]; rfl)); apply opT_strip (s := 139) rfl (by (rw [hg1, hg2]; rfl)); apply opT_of; (refine r_bin rfl rfl rfl ?_); refine r_nil ?_; exact rfl
                · exact rfl
                · exact rfl
                apply r_guardG (s := 133) rfl rfl rfl
                · intro hg1 hg2; apply opT_strip (s := 137) rfl (by (rw [hg1, hg2]; rfl)); apply opT_stripG (s := 140) rfl (by (rw [hg1, hg2]; rfl)); apply opT_of; (refine r_or rfl rfl ?_); refine r_nil ?_; exact rfl
                · exact rfl
                · exact rfl
                apply r_guard (s := 131) rfl rfl rfl
                · intro hg; apply opT_strip (s := 133) rfl (by (rw [hg]; rfl)); apply opT_stripG (s := 141) rfl (by (rw [hg]; rfl)); apply opT_of; (refine r_and rfl rfl ?_); refine r_nil ?_; exact rfl
                · exact rfl
                · exact rfl
                refine r_or rfl rfl ?_
                refine r_nil ?_
                refine i_then ?_
                refine t_cond_ff rfl (by exact paid_cut (paid_law hp hb hy.rng)) ?_
                refine t_skip ?_
                refine i_block ?_
                refine i_then ?_
                refine t_region ?_
                refine r_add rfl rfl (by omega) (by omega) ?_
                refine mvI rfl ?_
                refine r_nil ?_
                refine i_round (⟨(x.1.1 + 1, endS f.turnings.length y.1.2.2), by show x.1.1 + 1 ≤ 6; omega, end_in hxi hL hy⟩) ?_ (by show 6 - (x.1.1 + 1) < 6 - x.1.1; omega)
                (refine Ent.mk' ?_ ?_ <;> (repeat' (first | exact allSub_zero | exact allTags_nil | exact subs_nil | refine allSub_succ' ?_ (Ty.sub_any _) | refine allSub_succ' ?_ (Ty.sub_refl _) | refine allTags_cons rfl (Cont.sub_refl _) ?_ | refine allTags_cons rfl (Cont.sub_subs ?_) ?_ | refine subs_cons ?_ ?_)))
                all_goals skip
                all_goals first | exact Ty.sub_int (congrArg Sk.mixed (endS_no hsp hc8)) | exact Ty.sub_int (congrArg Sk.taken (endS_no hsp hc8)) | exact Ty.sub_sl (congrArg Sk.grain (endS_no hsp hc8))
    ·
      refine t_exit ?_
      refine i_then_exit ?_
      refine i_then_exit ?_
      refine i_block_exit rfl ?_
      refine i_then ?_
      refine t_seq ?_
      refine t_region ?_
      refine r_call (c_awake) rfl rfl rfl rfl rfl ?_
      refine asB rfl ?_
      refine r_nil ?_
      refine i_then ?_
      refine t_ret ?_
      refine i_rp1 rfl rfl ?_
      all_goals exact ret_refl rfl rfl
      all_goals trace_state
end Go.Proofs.Ytifgbnbkimcchaa

namespace Go.T
open Go Go.RowKit Go.ChangeShapes Go.WideShapes Go.ChangeAt
def pubs : Tags := fun _ => none
theorem wf_pubs (w : World) : Wf w pubs := ⟨fun _ _ h => (by cases h), fun _ _ _ h => (by cases h)⟩
theorem pubs_zero : ∀ b t, pubs b = some t → t = 0 := fun _ _ h => by cases h
structure Rd {α : Type} (P : Program) (e : TypeId) (E : El α) : Prop where
  size : P.cellsOf e = E.size
  pos : 0 < E.size
  rd : ∀ {H : Type} {enc : TypeId × Value → H} {w : World} {base : Nat} {held : Bool} {n : Nat} {cs : List Value} {y : DataW H × List MemPlace}, DataW.trod enc P w base (fun _ => true) held n e cs = some y → ∃ x, dens w pubs (E.tys x) cs
section
variable {H : Type} {enc : TypeId × Value → H} {P : Program} {w : World} {base : Nat} {held : Bool} {α : Type} {E : El α} {t e : TypeId} {n : Nat} {cs : List Value} {y : DataW H × List MemPlace}
theorem rd_sl (hR : Rd P e E) (ht : P.underlying t = some (.slice e)) (h : DataW.trod enc P w base (fun _ => true) held n t cs = some y) : ∃ v xs, cs = [v] ∧ (Ty.sl E xs).den w pubs v := by
  rcases Go.Deep.open_slice ht h with ⟨rfl, _⟩ | ⟨a, len, cap, m, k, D, Pl, rfl, _, hl, hm, hmm, _, hel⟩
  · exact ⟨_, [], rfl, none, 0, rfl, Nat.le_refl _, Nat.zero_le _, fun h => absurd h (Nat.lt_irrefl _)⟩
  have hlm : len ≤ m := by rw [hmm]; simpa using hl
  have hX : ∀ i : Fin len, ∃ x : α, ∃ cs', w.cells? base (a.add (i.1 * P.cellsOf e)) (P.cellsOf e) = some cs' ∧ dens w pubs (E.tys x) cs' := fun i => by
    obtain ⟨cs', h1, h2⟩ := hel i.1 (Nat.lt_of_lt_of_le i.2 hlm)
    obtain ⟨x, hx⟩ := hR.rd h2
    exact ⟨x, cs', h1, hx⟩
  let X : Fin len → α := fun i => (hX i).choose
  have hXs : ∀ i : Fin len, ∃ cs', w.cells? base (a.add (i.1 * P.cellsOf e)) (P.cellsOf e) = some cs' ∧ dens w pubs (E.tys (X i)) cs' := fun i => (hX i).choose_spec
  have hlen : (List.ofFn X).length = len := by simp
  refine ⟨_, List.ofFn X, rfl, some a, cap, by rw [hlen], by rw [hlen]; exact hl, hm, fun h0 => ?_⟩
  rw [hlen] at h0
  have hcell : ∀ (i : Fin len) (j : Nat) (u : Ty), (E.tys (X i))[j]? = some u → ∃ v, w.cell? (a.add (i.1 * E.size + j)) = some v ∧ u.den w pubs v := fun i j u hu => by
    obtain ⟨cs', h1, h2⟩ := hXs i
    obtain ⟨v, hv, hd⟩ := dens_get h2 j u hu
    obtain ⟨_, g1, g2⟩ := World.cells?_some h1
    have hj : j < P.cellsOf e := by
      rw [hR.size, ← E.len (X i)]
      exact (List.getElem?_eq_some_iff.1 hu).1
    refine ⟨v, ?_, hd⟩
    have := g2 j hj
    rw [Go.Deep.add_add, hv, hR.size] at this
    exact this
  have hsz := hR.pos
  have hfirst : ∃ v, w.cell? (a.add 0) = some v := by
    obtain ⟨u, hu⟩ : ∃ u, (E.tys (X ⟨0, h0⟩))[0]? = some u := ⟨_, List.getElem?_eq_getElem (by rw [E.len]; exact hsz)⟩
    obtain ⟨v, hv, _⟩ := hcell ⟨0, h0⟩ 0 u hu
    exact ⟨v, by simpa using hv⟩
  obtain ⟨b, off, sp⟩ := a
  obtain ⟨v0, hv0⟩ := hfirst
  have hsp : sp = none := by simpa [Addr.add] using World.cell?_spot hv0
  subst hsp
  have hb : b < w.heap.size := by
    obtain ⟨cs', h1, _⟩ := hXs ⟨0, h0⟩
    have := World.cells?_block h1 (by rw [hR.size]; exact hsz)
    simpa [Addr.add] using this
  refine ⟨b, off, rfl, rfl, hb, fun i u hu => ?_⟩
  have hi : i < len * E.size := by
    have := (List.getElem?_eq_some_iff.1 hu).1
    rw [flat_len, hlen] at this; exact this
  have hk : i / E.size < len := Nat.div_lt_of_lt_mul (by rw [Nat.mul_comm]; exact hi)
  have hj : i % E.size < E.size := Nat.mod_lt _ hsz
  have hij : i / E.size * E.size + i % E.size = i := by rw [Nat.mul_comm]; exact Nat.div_add_mod i E.size
  have hu2 := hu
  rw [← hij, flat_get E _ _ _ (by rw [hlen]; exact hk) hj, List.getElem?_ofFn, dif_pos hk] at hu2
  obtain ⟨v, hv, hd⟩ := hcell ⟨i / E.size, hk⟩ (i % E.size) u hu2
  refine ⟨v, ?_, hd⟩
  rw [← Go.WideShapes.add_plain]
  rw [hij] at hv
  exact hv
theorem rd_sl1 {c : Value} (hR : Rd P e E) (ht : P.underlying t = some (.slice e)) (h : DataW.trod enc P w base (fun _ => true) held n t [c] = some y) : ∃ xs, (Ty.sl E xs).den w pubs c := by
  obtain ⟨v, xs, e, hd⟩ := rd_sl hR ht h
  exact ⟨xs, by rw [show c = v by simpa using e]; exact hd⟩
end
section
variable {w w' : World} {S K : Nat → Prop} {M' : Tags}
theorem le_block (le : Le S K w pubs w' M') {b : Nat} (hb : b < w.heap.size) : w'.heap[b]? = w.heap[b]? := (le.pub b hb rfl).2
theorem le_same (le : Le S K w pubs w' M') {p : MemPlace} (hp : p.block < w.heap.size) : w.sameAt w' p := by
  cases p with
  | cell b o => exact World.cell?_of_block (w := w) (le_block le hp)
  | map b => exact le_block le hp
theorem le_kept (le : Le S K w pubs w' M') (may : MemPlace → Prop) : w.keptBut w' may := by
  refine ⟨le.os, le.out, fun i hi => ?_⟩
  have e := le_block le hi
  rw [e]
  split
  · rename_i h1 h2
    rw [h1] at h2
    simp only [Option.some.injEq, Obj.cells.injEq] at h2
    obtain ⟨rfl, rfl, rfl⟩ := h2
    exact ⟨rfl, rfl, rfl, fun _ _ => rfl⟩
  · rename_i h1 h2
    rw [h1] at h2
    simp only [Option.some.injEq, Obj.map.injEq] at h2
    exact Or.inr ⟨h2.1.symm, h2.2.symm⟩
  · rfl
theorem le_frozen (le : Le S K w pubs w' M') {a : Addr} (ha : a.block < w.heap.size) : w'.frozen? a = w.frozen? a := by
  unfold World.frozen?
  rw [le_block le ha]
end
section
variable {H : Type} {enc : TypeId × Value → H} {P : Program}
theorem trodAll_stays (hl : laidOutB P = true) {w w' : World} {sp : Nat → Bool} : ∀ {ts : List TypeId} {vs : List Value} {ds : List (DataW H)} {ps : List MemPlace}, (∀ t ∈ ts, P.readableRec t = true ∧ t < P.types.size) →
    DataW.TrodAll enc P w 0 (fun _ => true) true ts vs ds ps → (∀ p ∈ ps, w.sameAt w' p) → (∀ p ∈ ps, sp p.block = true) → DataW.TrodAll enc P w' 0 sp true ts vs ds ps
  | [], [], [], _, _, h, _, _ => h
  | t :: ts, v :: vs, d :: ds, _, ht, ⟨p, q, h1, h2, e⟩, hs, hsp => by
    subst e
    have h0 := ht t List.mem_cons_self
    exact ⟨p, q, Go.WideElems.Trod_stays hl h0.1 h0.2 h1 (fun x hx => hs x (List.mem_append_left _ hx)) (fun x hx => hsp x (List.mem_append_left _ hx)),
      trodAll_stays hl (fun t h => ht t (List.mem_cons_of_mem _ h)) h2 (fun x hx => hs x (List.mem_append_right _ hx)) (fun x hx => hsp x (List.mem_append_right _ hx)), rfl⟩
theorem post_true {f : Func} {s : ChangeSpec} {apart fresh handsOn again : Bool} {W W' : World} {args : Array Value} {ds : List (DataW H)} {before : List MemPlace} {S K : Nat → Prop} {M' : Tags}
    (hl : laidOutB P = true) (hv : s.vars = []) (hrd : ∀ t ∈ f.params.toList, P.readableRec t = true ∧ t < P.types.size) {tb : TypeId} (htb : P.underlying tb = some .bool) (hrt : f.resultTypes = #[tb])
    (hW : DataW.Whole enc P f.params.toList s.vars apart W args.toList ds [] before) (hres : (s.fn H (ds ++ [])).results = [.lit (.bool true)]) (hargs : (s.fn H (ds ++ [])).args = ds) (hvars : (s.fn H (ds ++ [])).vars = [])
    (le : Le S K W pubs W' M') : s.post enc P f apart fresh handsOn again W args (.bool true) W' := by
  have hW0 := hW
  obtain ⟨p, q, hA, hV, hb, hfz, hn⟩ := hW0
  have hlt := DataW.TrodAll.lt hA
  have hq : q = [] := by rw [hv] at hV; exact (trodVars_none hV).2
  subst hq
  have hbp : before = p := by rw [hb]; simp
  have hre : ∀ (b : Nat) (sp : Nat → Bool) (hd : Bool), DataW.TrodAll enc P W' b sp hd f.resultTypes.toList ((Value.bool true).resultList f.resultTypes.size) (s.fn H (ds ++ [])).results [] := fun b sp hd => by
    rw [hrt, hres]; exact trodAll_mk1 (shut_bool htb true)
  have har : ∀ sp : Nat → Bool, (∀ x ∈ p, sp x.block = true) → DataW.TrodAll enc P W' 0 sp true f.params.toList args.toList (s.fn H (ds ++ [])).args p := fun sp hsp => by
    rw [hargs]; exact trodAll_stays hl hrd hA (fun x hx => le_same le (hlt x hx)) hsp
  have hva : ∀ sp : Nat → Bool, DataW.TrodVars enc P W' sp s.vars (s.fn H (ds ++ [])).vars [] := fun sp => by
    rw [hvars, hv]; exact rfl
  have hok : ∀ (j : Nat) (t : TypeId) (r : Value), f.resultTypes[j]? = some t → ((Value.bool true).resultList f.resultTypes.size)[j]? = some r → Value.okWide P W' .any 0 t r := by
    exact ok_one (by rw [hrt]) rfl (okWide_bool_mk htb true)
  refine ⟨ds, [], before, [], p, [], hW, hre _ _ _, har _ (fun x hx => by simpa using hlt x hx), hva _, World.keptBut_mono (fun x hx => hx) (le_kept le _), fun _ => ?_⟩
  refine ⟨hok, _, _, ([] ++ p) ++ [], ⟨[] ++ p, [], trodAll_append (har _ (fun _ _ => rfl)) (hre _ _ _), hva _, rfl, ?_, ?_⟩, ?_⟩
  · intro b off hp
    have hp' : MemPlace.cell b off ∈ p := by simpa using hp
    rw [le_frozen le (hlt _ hp')]
    exact hfz b off (by rw [hbp]; exact hp')
  · intro ha
    have := hn ha
    rw [hbp] at this
    simpa using this
  · intro x hx _
    rw [hbp]
    simpa using hx
end
end Go.T

namespace Go.Proofs.Ytifgbnbkimcchaa
open Go Go.T Go.RowKit Go.ChangeShapes Go.WideShapes Go.ChangeAt
section
variable {H : Type} {enc : TypeId × Value → H} {W : World} {base : Nat} {held : Bool} {v : Value} {d : DataW H} {p : List MemPlace}
end
end Go.Proofs.Ytifgbnbkimcchaa

namespace Go.Proofs.Ytifgbnbkimcchaa
open Go Go.T Go.RowKit Go.ChangeShapes Go.WideShapes Go.ChangeAt
theorem rdU8 : Rd Try.prog 5 U8 := ⟨by kernel_rfl, by decide, fun h => by
  obtain ⟨i, rfl, _⟩ := DataW.trod_int Try.underlying5 h
  exact ⟨i, rfl, trivial⟩⟩
section
variable {H : Type} {enc : TypeId × Value → H} {W : World} {base : Nat} {held : Bool} {v : Value} {d : DataW H} {p : List MemPlace}
set_option maxRecDepth 100000 in
theorem rd_u8 (hv : Value.okWide Try.prog W .any base 5 v) (h : DataW.Trod enc Try.prog W 0 (fun _ => true) held 5 v d p) : ∃ n : Int, (0 ≤ n ∧ n ≤ 255) ∧ (Ty.int .u8 n).den W pubs v := by
  obtain ⟨n, rfl, _, _, hw⟩ := open_int Try.underlying5 hv h
  refine ⟨n, ?_, rfl⟩
  simp [Lit.wf, IntKind.wrap] at hw
  have e1 : IntKind.u8.min = 0 := rfl
  have e2 : IntKind.u8.max = 255 := rfl
  omega
set_option maxRecDepth 100000 in
theorem rd_bytes (hv : Value.okWide Try.prog W .any base 92 v) (h : DataW.Trod enc Try.prog W 0 (fun _ => true) held 92 v d p) : ∃ l, (Ty.sl U8 l).den W pubs v := by
  obtain ⟨a, len, cap, rfl⟩ := okWide_slice Try.underlying92 hv
  obtain ⟨n, hn⟩ := h
  exact rd_sl1 rdU8 Try.underlying92 (by simpa [Value.cells] using hn)
end
end Go.Proofs.Ytifgbnbkimcchaa
