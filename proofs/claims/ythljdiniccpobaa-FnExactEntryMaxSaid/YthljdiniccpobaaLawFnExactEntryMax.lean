/- The statement of the law FnExactEntryMax: its row, out of the pure statement (YthljdiniccpobaaPureFnExactEntryMax) and the walk of its code. No condition. -/
import Derived.Test.YthljdiniccpobaaRows
import Derived.Test.YthljdiniccpobaaPlFnExactEntryMax
import Derived.Test.YthljdiniccpobaaPureFnExactEntryMax
import Derived.Test.YthljdiniccpobaaGate
namespace Go.Proofs.Ythljdiniccpobaa.fnExactEntryMax
open Go.ChangeShapes Go.WideShapes Go.ChangeAt Go.RowKit
open Go.ChangeMaps (open_string shut_string)
open Go.Proofs.YthljdiniccpobaaW.PrintWords Go.Proofs.Ythljdiniccpobaa.P
set_option linter.unusedVariables false
set_option linter.unusedSimpArgs false
theorem own : ownKnob Try.prog.godebug = none := by kernel_rfl
theorem laidOut : laidOutB Try.prog = true := by kernel_rfl
set_option maxRecDepth 100000 in
theorem lifted (os : Os) (started : os.Started) (H : Type) (enc : TypeId × Value → H) :
    ReturnsInHanded {} Try.checked os 3 .any (Rows.fnExactEntryMaxSpec.pre6 enc Try.prog Try.f3 Rows.fnExactEntryMaxRow.domain false) (Rows.fnExactEntryMaxSpec.post enc Try.prog Try.f3 false true false false) := by
  refine returnsInHanded_of_change_sized (C := Try.checked) own started (by kernel_rfl) Try.func3
    (ChangeSpec.witness6 (enc := enc) (C := Try.checked) false ⟨#[], #[.agg #[.int .i64 0, .int .i64 0, .int .i64 0, .int .i64 0, .string ByteArray.empty], .agg #[.int .i64 0, .int .i64 0, .int .i64 0, .int .i64 0, .string ByteArray.empty]], []⟩ 8 (by kernel_rfl) (by kernel_rfl) (by kernel_rfl) (by kernel_rfl)) ?_
  intro W base args ds gs before hval0 hW hcnd hsz0 _
  have hsz : (DataW.weightsEach Try.prog (Try.f3.params.toList ++ Rows.fnExactEntryMaxSpec.plain.varTypes Try.prog) (ds ++ gs)).all (· ≤ reachBytes) = true := hsz0
  have hval : ∀ (j : Nat) t v, Try.f3.params[j]? = some t → args[j]? = some v → Value.okWide Try.prog W .any base t v := hval0
  have hW' := hW
  obtain ⟨p, q, hA0, hV, rfl, hfz, hnd⟩ := hW
  have hA : DataW.TrodAll enc Try.prog W 0 (fun _ => true) true Try.f3.params.toList args.toList ds p := hA0
  rw [Try.params3] at hA hval hsz
  obtain ⟨v0, vs0, d0, ds0, p0, q0, hargs, rfl, rfl, h0, r0⟩ := trodAll_cons hA
  obtain ⟨v1, vs1, d1, ds1, p1, q1, rfl, rfl, rfl, h1, r1⟩ := trodAll_cons r0
  obtain ⟨rfl, rfl, rfl⟩ := trodAll_nil r1
  obtain rfl : args = #[v0, v1] := by cases args; simp_all
  obtain ⟨rfl, rfl⟩ := trodVars_none hV
  have k0 := h0
  have lt0 : ∀ x ∈ p0, x.block < W.heap.size := by obtain ⟨m, hm⟩ := k0; exact DataW.trod_lt m _ _ _ hm
  obtain ⟨cs0, rfl, hz0⟩ := okWide_struct Try.underlying23 (hval 0 23 v0 rfl rfl)
  obtain ⟨fuel0, hf0⟩ := h0
  obtain ⟨x0, hk0, hg0⟩ := (Gate.opens_struct Try.underlying23 (by kernel_rfl) (Gate.opensF_cons rfl (by kernel_rfl) (Gate.opens_int Try.underlying3) (Gate.opensF_cons rfl (by kernel_rfl) (Gate.opens_int Try.underlying3) (Gate.opensF_cons rfl (by kernel_rfl) (Gate.opens_int Try.underlying3) (Gate.opensF_cons rfl (by kernel_rfl) (Gate.opens_int Try.underlying3) (Gate.opensF_one rfl (by kernel_rfl) (Gate.opens_string Try.underlying9))))))) fuel0 _ _ hf0 (Gate.weights_of hsz (j := 0) (t := 23) rfl rfl)
  obtain ⟨u0_0, w0_0, ew0_0, kk0_0, hk0_0⟩ := hk0
  obtain ⟨u0_1, w0_1, ew0_1, kk0_1, hk0_1⟩ := hk0_0
  obtain ⟨u0_2, w0_2, ew0_2, kk0_2, hk0_2⟩ := hk0_1
  obtain ⟨u0_3, w0_3, ew0_3, kk0_3, hk0_3⟩ := hk0_2
  have kk0_4 := hk0_3
  have e0_0 := kk0_0
  have e0_1 := kk0_1
  have e0_2 := kk0_2
  have e0_3 := kk0_3
  have e0_4 := kk0_4
  obtain rfl : cs0 = #[.int .i64 x0.1, .int .i64 x0.2.1, .int .i64 x0.2.2.1, .int .i64 x0.2.2.2.1, .string x0.2.2.2.2] := by
    apply Array.ext'
    have hd : cs0.toList = [.int .i64 x0.1, .int .i64 x0.2.1, .int .i64 x0.2.2.1, .int .i64 x0.2.2.2.1, .string x0.2.2.2.2] := by
      have z : (Value.agg cs0).cells.toList = [.int .i64 x0.1, .int .i64 x0.2.1, .int .i64 x0.2.2.1, .int .i64 x0.2.2.2.1, .string x0.2.2.2.2] := by
        try simp only [Kd.int, Kd.bool, Kd.string, Kd.scalar, List.drop_zero] at e0_0
        try simp only [Kd.int, Kd.bool, Kd.string, Kd.scalar, List.drop_zero] at e0_1
        try simp only [Kd.int, Kd.bool, Kd.string, Kd.scalar, List.drop_zero] at e0_2
        try simp only [Kd.int, Kd.bool, Kd.string, Kd.scalar, List.drop_zero] at e0_3
        try simp only [Kd.int, Kd.bool, Kd.string, Kd.scalar, List.drop_zero] at e0_4
        try simp only [List.drop_zero] at ew0_0
        rw [ew0_0, e0_0, ew0_1, e0_1, ew0_2, e0_2, ew0_3, e0_3]
        rw [e0_4]; rfl
      exact z
    exact hd
  have k1 := h1
  have lt1 : ∀ x ∈ p1, x.block < W.heap.size := by obtain ⟨m, hm⟩ := k1; exact DataW.trod_lt m _ _ _ hm
  obtain ⟨cs1, rfl, hz1⟩ := okWide_struct Try.underlying23 (hval 1 23 v1 rfl rfl)
  obtain ⟨fuel1, hf1⟩ := h1
  obtain ⟨x1, hk1, hg1⟩ := (Gate.opens_struct Try.underlying23 (by kernel_rfl) (Gate.opensF_cons rfl (by kernel_rfl) (Gate.opens_int Try.underlying3) (Gate.opensF_cons rfl (by kernel_rfl) (Gate.opens_int Try.underlying3) (Gate.opensF_cons rfl (by kernel_rfl) (Gate.opens_int Try.underlying3) (Gate.opensF_cons rfl (by kernel_rfl) (Gate.opens_int Try.underlying3) (Gate.opensF_one rfl (by kernel_rfl) (Gate.opens_string Try.underlying9))))))) fuel1 _ _ hf1 (Gate.weights_of hsz (j := 1) (t := 23) rfl rfl)
  obtain ⟨u1_0, w1_0, ew1_0, kk1_0, hk1_0⟩ := hk1
  obtain ⟨u1_1, w1_1, ew1_1, kk1_1, hk1_1⟩ := hk1_0
  obtain ⟨u1_2, w1_2, ew1_2, kk1_2, hk1_2⟩ := hk1_1
  obtain ⟨u1_3, w1_3, ew1_3, kk1_3, hk1_3⟩ := hk1_2
  have kk1_4 := hk1_3
  have e1_0 := kk1_0
  have e1_1 := kk1_1
  have e1_2 := kk1_2
  have e1_3 := kk1_3
  have e1_4 := kk1_4
  obtain rfl : cs1 = #[.int .i64 x1.1, .int .i64 x1.2.1, .int .i64 x1.2.2.1, .int .i64 x1.2.2.2.1, .string x1.2.2.2.2] := by
    apply Array.ext'
    have hd : cs1.toList = [.int .i64 x1.1, .int .i64 x1.2.1, .int .i64 x1.2.2.1, .int .i64 x1.2.2.2.1, .string x1.2.2.2.2] := by
      have z : (Value.agg cs1).cells.toList = [.int .i64 x1.1, .int .i64 x1.2.1, .int .i64 x1.2.2.1, .int .i64 x1.2.2.2.1, .string x1.2.2.2.2] := by
        try simp only [Kd.int, Kd.bool, Kd.string, Kd.scalar, List.drop_zero] at e1_0
        try simp only [Kd.int, Kd.bool, Kd.string, Kd.scalar, List.drop_zero] at e1_1
        try simp only [Kd.int, Kd.bool, Kd.string, Kd.scalar, List.drop_zero] at e1_2
        try simp only [Kd.int, Kd.bool, Kd.string, Kd.scalar, List.drop_zero] at e1_3
        try simp only [Kd.int, Kd.bool, Kd.string, Kd.scalar, List.drop_zero] at e1_4
        try simp only [List.drop_zero] at ew1_0
        rw [ew1_0, e1_0, ew1_1, e1_1, ew1_2, e1_2, ew1_3, e1_3]
        rw [e1_4]; rfl
      exact z
    exact hd
  obtain ⟨kk, h⟩ := Pure.FnExactEntryMax x0.1 x0.2.1 x0.2.2.1 x0.2.2.2.1 x0.2.2.2.2 x1.1 x1.2.1 x1.2.2.1 x1.2.2.2.1 x1.2.2.2.2 hg0.1 hg0.2.1 hg0.2.2.1 hg0.2.2.2.1 hg0.2.2.2.2 hg1.1 hg1.2.1 hg1.2.2.1 hg1.2.2.2.1 hg1.2.2.2.2
  refine (P.laws_FnExactEntryMax.calls kk x0.1 x0.2.1 x0.2.2.1 x0.2.2.2.1 x0.2.2.2.2 x1.1 x1.2.1 x1.2.2.1 x1.2.2.2.1 x1.2.2.2.2 true W h).mono fun e W' ⟨he, bel0⟩ => ?_
  have bel : Below W.heap.size W W' := bel0
  subst he
  exact ⟨_, rfl, _, _, _, [], _, [], hW', trodAll_mk1 (shut_bool Try.underlying4 _), (trodAll_cons_mk (Below.trod laidOut (by kernel_rfl) (of_decide_eq_true (by kernel_rfl)) k0 bel lt0) (trodAll_cons_mk (Below.trod laidOut (by kernel_rfl) (of_decide_eq_true (by kernel_rfl)) k1 bel lt1) trodAll_mk0)), rfl, bel.frame _, fun h => by cases h⟩
theorem over : Rows.fnExactEntryMaxRow.holds Try.pinned (OpenSpec.ofChange Rows.fnExactEntryMaxSpec) :=
  OpenClaim.holds_of_wide 3 Try.f3 rfl rfl rfl rfl rfl rfl rfl ⟨rfl, rfl, rfl, rfl, rfl⟩ rfl rfl rfl rfl rfl (by kernel_rfl) Try.func3 (by kernel_rfl)
    (of_decide_eq_true (by kernel_rfl)) (by unfold Func.isWrapper; first | (rw [if_pos (by decide +kernel)]; kernel_rfl) | (rw [if_neg (by decide +kernel)]; exact ⟨rfl, rfl⟩))
    (fun os started H enc _ => lifted os started H enc)
theorem proved : Rows.FnExactEntryMaxSaid := over
#print axioms proved
end Go.Proofs.Ythljdiniccpobaa.fnExactEntryMax
namespace Go.Proofs.Ythljdiniccpobaa
/-- The row, under a short name, for the claim. -/
theorem fnExactEntryMax_holds : Rows.FnExactEntryMaxSaid := fnExactEntryMax.proved
end Go.Proofs.Ythljdiniccpobaa
