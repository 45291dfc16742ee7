/- Rounds are found just if a barn can be made right, they make it right, and are as few as can be; whether rounds make it right. No condition. (In seat Z alone: the numbers of types are those of that seat.) -/
import Derived.Test.YtpnndljmhpepgaaGreatQf
import Derived.Test.YtpnndljmhpepgaaGreatRows
import Derived.KernelRfl
import Derived.SizedLaws
namespace Go.Proofs.YtpnndljmhpepgaaGreat.lawTurnRounds
open Go Go.T Go.RowKit Go.ChangeShapes Go.WideShapes Go.ChangeAt

theorem rdI64 : Rd Tryz.prog 3 I64 := ⟨by kernel_rfl, by decide, fun h => by
  obtain ⟨i, rfl, _⟩ := DataW.trod_int Tryz.underlying3 h
  exact ⟨i, rfl, trivial⟩⟩
theorem rdLot : Rd Tryz.prog 58 LotE := ⟨by kernel_rfl, by decide, fun h => by
  obtain ⟨c0, c1, c2, y0, y1, y2, m, rfl, h0, h1, h2⟩ := rd_struct3 Tryz.underlying58 (by kernel_rfl) ⟨rfl, by kernel_rfl⟩ ⟨rfl, by kernel_rfl⟩ ⟨rfl, by kernel_rfl⟩ h
  obtain ⟨a, rfl⟩ := rd_int Tryz.underlying3 h0
  obtain ⟨b, rfl⟩ := rd_int Tryz.underlying3 h1
  obtain ⟨c, rfl⟩ := rd_int Tryz.underlying3 h2
  exact ⟨⟨a, b, c⟩, rfl, rfl, rfl, trivial⟩⟩
theorem rdTur : Rd Tryz.prog 37 TurE := ⟨by kernel_rfl, by decide, fun h => by
  obtain ⟨c0, c1, y0, y1, m, rfl, h0, h1⟩ := rd_struct2 Tryz.underlying37 (by kernel_rfl) ⟨rfl, by kernel_rfl⟩ ⟨rfl, by kernel_rfl⟩ h
  obtain ⟨a, rfl⟩ := rd_int Tryz.underlying3 h0
  obtain ⟨b, rfl⟩ := rd_int Tryz.underlying3 h1
  exact ⟨⟨a, b⟩, rfl, rfl, trivial⟩⟩
theorem rdRowT : Rd Tryz.prog 29 RowT := ⟨by kernel_rfl, by decide, fun h => by
  obtain ⟨v, xs, rfl, hd⟩ := rd_sl rdTur Tryz.underlying29 h
  exact ⟨xs, hd, trivial⟩⟩
section
variable {H : Type} {enc : TypeId × Value → H} {W : World} {base : Nat} {held : Bool} {v : Value} {d : DataW H} {p : List MemPlace}
set_option maxRecDepth 100000 in
theorem rd_barn (hv : Value.okWide Tryz.prog W .any base 25 v) (h : DataW.Trod enc Tryz.prog W 0 (fun _ => true) held 25 v d p) : ∃ b, (barnT b).den W pubs v := by
  obtain ⟨c0, c1, y0, y1, n, rfl, _, _, h0, h1⟩ := Go.Joins.open_agg2 Tryz.underlying25 (by kernel_rfl) (by kernel_rfl) hv h
  obtain ⟨bs, e0⟩ := rd_sl1 rdI64 Tryz.underlying22 h0
  obtain ⟨ls, e1⟩ := rd_sl1 rdLot Tryz.underlying23 h1
  exact ⟨⟨bs, ls⟩, _, rfl, e0, e1, trivial⟩
set_option maxRecDepth 100000 in
theorem rd_i64 (hv : Value.okWide Tryz.prog W .any base 3 v) (h : DataW.Trod enc Tryz.prog W 0 (fun _ => true) held 3 v d p) : ∃ n, (Ty.int .i64 n).den W pubs v := by
  obtain ⟨n, rfl, _⟩ := open_int Tryz.underlying3 hv h
  exact ⟨n, rfl⟩
set_option maxRecDepth 100000 in
theorem rd_rounds (hv : Value.okWide Tryz.prog W .any base 26 v) (h : DataW.Trod enc Tryz.prog W 0 (fun _ => true) held 26 v d p) : ∃ l, (Ty.sl RowT l).den W pubs v := by
  obtain ⟨a, len, cap, rfl⟩ := okWide_slice Tryz.underlying26 hv
  obtain ⟨n, hn⟩ := h
  exact rd_sl1 rdRowT Tryz.underlying26 (by simpa [Value.cells] using hn)
set_option maxRecDepth 100000 in
theorem barn_len {b : Barn} (hv : Value.okWide Tryz.prog W .any base 25 v) (h : DataW.Trod enc Tryz.prog W 0 (fun _ => true) held 25 v d p) (hd : (barnT b).den W pubs v) (hw : ∀ n ∈ d.weights Tryz.prog 25, n ≤ reachBytes) : b.lots.length * 24 ≤ 140737488355328 := by
  obtain ⟨c0, c1, y0, y1, n, rfl, rfl, _, h0, h1⟩ := Go.Joins.open_agg2 Tryz.underlying25 (by kernel_rfl) (by kernel_rfl) hv h
  obtain ⟨vs, e, hd⟩ := hd
  injection e with e
  subst e
  have hd1 : (Ty.sl LotE b.lots).den W pubs c1 := hd.2.1
  obtain ⟨a, c, e1, _, _, _⟩ := hd1
  rcases Go.Deep.open_slice Tryz.underlying23 h1 with ⟨e2, _⟩ | ⟨a', len, cap, m, k, D, Pl, e2, _, _, _, _, hy, _⟩
  · rw [e1] at e2
    have : b.lots.length = 0 := by simp only [List.cons.injEq, Value.slice.injEq] at e2; exact e2.1.2.1
    omega
  · rw [e1] at e2
    have hlen : b.lots.length = len := by simp only [List.cons.injEq, Value.slice.injEq] at e2; exact e2.1.2.1
    have hm : (((List.range len).map D).length + ((List.range (m - len)).map fun j => D (len + j)).length) * Tryz.prog.bytesOf 58 ∈ (DataW.agg [y0.1, y1.1]).weights Tryz.prog 25 := by
      rw [hy]
      simp only [DataW.weights, Tryz.underlying25, Tryz.underlying23, DataW.weightsEach, List.map_cons, List.map_nil, List.mem_append, List.mem_cons]
      exact .inr (.inl (.inl trivial))
    have hle := hw _ hm
    rw [List.length_map, List.length_range, show Tryz.prog.bytesOf 58 = 24 by kernel_rfl, Nat.add_mul] at hle
    have : reachBytes = 140737488351232 := rfl
    omega
end
theorem own : ownKnob Tryz.prog.godebug = none := by kernel_rfl
set_option maxRecDepth 100000 in
theorem contract (H : Type) (enc : TypeId × Value → H) (W : World) (base : Nat) (args : Array Value) (ds gs : List (DataW H)) (before : List MemPlace)
    (hval : ∀ (j : Nat) t v, Tryz.f3.params[j]? = some t → args[j]? = some v → Value.okWide Tryz.prog W .any base t v)
    (hW : DataW.Whole enc Tryz.prog Tryz.f3.params.toList Rows.turnRoundsSpec.vars false W args.toList ds gs before)
    (hwt : (DataW.weightsEach Tryz.prog (Tryz.f3.params.toList ++ Rows.turnRoundsSpec.plain.varTypes Tryz.prog) (ds ++ gs)).all (· ≤ reachBytes) = true) :
    Calls Tryz.prog 3 args W fun e W' => ∃ v, e = .returned v ∧ Rows.turnRoundsSpec.post enc Tryz.prog Tryz.f3 false true false false W args v W' := by
  have hW' := hW
  obtain ⟨p, q, hA0, hV, rfl, hfz, hnd⟩ := hW
  have hA : DataW.TrodAll enc Tryz.prog W 0 (fun _ => true) true Tryz.f3.params.toList args.toList ds p := hA0
  rw [Tryz.params3] at hA hval
  obtain ⟨v0, vs0, d0, ds0, p0, q0, hargs, rfl, rfl, h0, r0⟩ := trodAll_cons hA
  obtain ⟨v1, vs1, d1, ds1, p1, q1, rfl, rfl, rfl, h1, r1⟩ := trodAll_cons r0
  obtain ⟨v2, vs2, d2, ds2, p2, q2, rfl, rfl, rfl, h2, r2⟩ := trodAll_cons r1
  obtain ⟨rfl, rfl, rfl⟩ := trodAll_nil r2
  obtain rfl : args = #[v0, v1, v2] := by cases args; simp_all
  obtain ⟨rfl, rfl⟩ := trodVars_none hV
  obtain ⟨x0, e0⟩ := rd_barn (hval 0 25 v0 rfl rfl) h0
  have hb := barn_len (hval 0 25 v0 rfl rfl) h0 e0 fun n hn => by have := List.all_eq_true.1 hwt n (DataW.weights_mem_each (j := 0) rfl rfl n hn); simpa using this
  obtain ⟨x1, e1⟩ := rd_i64 (hval 1 3 v1 rfl rfl) h1
  obtain ⟨x2, e2⟩ := rd_rounds (hval 2 26 v2 rfl rfl) h2
  refine ((c_TurnRounds x0 hb x1 x2).2 W pubs [v0, v1, v2] (wf_pubs W) pubs_zero ⟨e0, e1, e2, trivial⟩).mono fun e W' ⟨r, M', he, _, le, hd⟩ => ?_
  obtain rfl : r = .bool true := hd
  exact ⟨_, he, post_true (by kernel_rfl) rfl (by rw [Tryz.params3]; intro t ht; simp at ht; rcases ht with rfl | rfl | rfl <;> exact ⟨by kernel_rfl, of_decide_eq_true (by kernel_rfl)⟩) Tryz.underlying4 (by kernel_rfl) hW' rfl rfl rfl le⟩

set_option maxRecDepth 100000 in
theorem lifted (os : Os) (started : os.Started) (H : Type) (enc : TypeId × Value → H) :
    ReturnsInHanded {} Tryz.checked os 3 .any (Rows.turnRoundsSpec.pre6 enc Tryz.prog Tryz.f3 Rows.turnRoundsRow.domain false) (Rows.turnRoundsSpec.post enc Tryz.prog Tryz.f3 false true false false) := by
  refine returnsInHanded_of_change_sized (C := Tryz.checked) own started (by kernel_rfl) Tryz.func3
    (ChangeSpec.witness6 (enc := enc) (C := Tryz.checked) false ⟨#[], #[.agg #[.slice none 0 0, .slice none 0 0], .int .i64 0, .slice none 0 0], []⟩ 8 (by kernel_rfl) (by kernel_rfl) (by kernel_rfl) (by kernel_rfl)) ?_
  intro W base args ds gs before hval hW _ hwt _
  exact contract H enc W base args ds gs before hval hW hwt

theorem proved : Rows.TurnRoundsSaid :=
  OpenClaim.holds_of_wide 3 Tryz.f3 rfl rfl rfl rfl rfl rfl rfl ⟨rfl, rfl, rfl, rfl, rfl⟩ rfl rfl rfl rfl rfl (by kernel_rfl) Tryz.func3 (by kernel_rfl)
    (of_decide_eq_true (by kernel_rfl)) (by unfold Func.isWrapper; first | (rw [if_pos (by decide +kernel)]; kernel_rfl) | (rw [if_neg (by decide +kernel)]; exact ⟨rfl, rfl⟩))
    (fun os started H enc _ => lifted os started H enc)
end Go.Proofs.YtpnndljmhpepgaaGreat.lawTurnRounds
