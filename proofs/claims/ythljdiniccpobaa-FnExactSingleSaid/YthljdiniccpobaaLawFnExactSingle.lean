/- The statement of the law FnExactSingle: its row, out of the pure statement (YthljdiniccpobaaPureFnExactSingle) and the walk of its code. No condition. -/
import Derived.Test.YthljdiniccpobaaRows
import Derived.Test.YthljdiniccpobaaPlFnExactSingle
import Derived.Test.YthljdiniccpobaaPureFnExactSingle
import Derived.Test.YthljdiniccpobaaGate
namespace Go.Proofs.Ythljdiniccpobaa.fnExactSingle
open Go.ChangeShapes Go.WideShapes Go.ChangeAt Go.RowKit
open Go.ChangeMaps (open_string shut_string)
open Go.Proofs.YthljdiniccpobaaW.PrintWords Go.Proofs.Ythljdiniccpobaa.P
set_option linter.unusedVariables false
set_option linter.unusedSimpArgs false
theorem own : ownKnob Try.prog.godebug = none := by kernel_rfl
theorem laidOut : laidOutB Try.prog = true := by kernel_rfl
set_option maxRecDepth 100000 in
theorem lifted (os : Os) (started : os.Started) (H : Type) (enc : TypeId × Value → H) :
    ReturnsInHanded {} Try.checked os 10 .any (Rows.fnExactSingleSpec.pre6 enc Try.prog Try.f10 Rows.fnExactSingleRow.domain false) (Rows.fnExactSingleSpec.post enc Try.prog Try.f10 false true false false) := by
  refine returnsInHanded_of_change_sized (C := Try.checked) own started (by kernel_rfl) Try.func10
    (ChangeSpec.witness6 (enc := enc) (C := Try.checked) false ⟨#[], #[.int .i64 0, .agg #[.int .i64 0, .int .i64 0, .int .i64 0, .int .i64 0, .string ByteArray.empty]], []⟩ 8 (by kernel_rfl) (by kernel_rfl) (by kernel_rfl) (by kernel_rfl)) ?_
  intro W base args ds gs before hval0 hW hcnd hsz0 _
  have hsz : (DataW.weightsEach Try.prog (Try.f10.params.toList ++ Rows.fnExactSingleSpec.plain.varTypes Try.prog) (ds ++ gs)).all (· ≤ reachBytes) = true := hsz0
  have hval : ∀ (j : Nat) t v, Try.f10.params[j]? = some t → args[j]? = some v → Value.okWide Try.prog W .any base t v := hval0
  have hW' := hW
  obtain ⟨p, q, hA0, hV, rfl, hfz, hnd⟩ := hW
  have hA : DataW.TrodAll enc Try.prog W 0 (fun _ => true) true Try.f10.params.toList args.toList ds p := hA0
  rw [Try.params10] at hA hval hsz
  obtain ⟨v0, vs0, d0, ds0, p0, q0, hargs, rfl, rfl, h0, r0⟩ := trodAll_cons hA
  obtain ⟨v1, vs1, d1, ds1, p1, q1, rfl, rfl, rfl, h1, r1⟩ := trodAll_cons r0
  obtain ⟨rfl, rfl, rfl⟩ := trodAll_nil r1
  obtain rfl : args = #[v0, v1] := by cases args; simp_all
  obtain ⟨rfl, rfl⟩ := trodVars_none hV
  obtain ⟨a0, rfl, rfl, rfl, w0⟩ := open_int Try.underlying3 (hval 0 3 v0 rfl rfl) h0
  have k1 := h1
  have lt1 : ∀ x ∈ p1, x.block < W.heap.size := by obtain ⟨m, hm⟩ := k1; exact DataW.trod_lt m _ _ _ hm
  obtain ⟨cs1, rfl, hz1⟩ := okWide_struct Try.underlying23 (hval 1 23 v1 rfl rfl)
  obtain ⟨fuel1, hf1⟩ := h1
  obtain ⟨x1, hk1, hg1⟩ := (Gate.opens_struct Try.underlying23 (by kernel_rfl) (Gate.opensF_cons rfl (by kernel_rfl) (Gate.opens_int Try.underlying3) (Gate.opensF_cons rfl (by kernel_rfl) (Gate.opens_int Try.underlying3) (Gate.opensF_cons rfl (by kernel_rfl) (Gate.opens_int Try.underlying3) (Gate.opensF_cons rfl (by kernel_rfl) (Gate.opens_int Try.underlying3) (Gate.opensF_one rfl (by kernel_rfl) (Gate.opens_string Try.underlying9))))))) fuel1 _ _ hf1 (Gate.weights_of hsz (j := 1) (t := 23) rfl rfl)
  obtain ⟨u1_0, w1_0, ew1_0, kk1_0, hk1_0⟩ := hk1
  obtain ⟨u1_1, w1_1, ew1_1, kk1_1, hk1_1⟩ := hk1_0
  obtain ⟨u1_2, w1_2, ew1_2, kk1_2, hk1_2⟩ := hk1_1
  obtain ⟨u1_3, w1_3, ew1_3, kk1_3, hk1_3⟩ := hk1_2
  have kk1_4 := hk1_3
  have e1_0 := kk1_0
  have e1_1 := kk1_1
  have e1_2 := kk1_2
  have e1_3 := kk1_3
  have e1_4 := kk1_4
  obtain rfl : cs1 = #[.int .i64 x1.1, .int .i64 x1.2.1, .int .i64 x1.2.2.1, .int .i64 x1.2.2.2.1, .string x1.2.2.2.2] := by
    apply Array.ext'
    have hd : cs1.toList = [.int .i64 x1.1, .int .i64 x1.2.1, .int .i64 x1.2.2.1, .int .i64 x1.2.2.2.1, .string x1.2.2.2.2] := by
      have z : (Value.agg cs1).cells.toList = [.int .i64 x1.1, .int .i64 x1.2.1, .int .i64 x1.2.2.1, .int .i64 x1.2.2.2.1, .string x1.2.2.2.2] := by
        try simp only [Kd.int, Kd.bool, Kd.string, Kd.scalar, List.drop_zero] at e1_0
        try simp only [Kd.int, Kd.bool, Kd.string, Kd.scalar, List.drop_zero] at e1_1
        try simp only [Kd.int, Kd.bool, Kd.string, Kd.scalar, List.drop_zero] at e1_2
        try simp only [Kd.int, Kd.bool, Kd.string, Kd.scalar, List.drop_zero] at e1_3
        try simp only [Kd.int, Kd.bool, Kd.string, Kd.scalar, List.drop_zero] at e1_4
        try simp only [List.drop_zero] at ew1_0
        rw [ew1_0, e1_0, ew1_1, e1_1, ew1_2, e1_2, ew1_3, e1_3]
        rw [e1_4]; rfl
      exact z
    exact hd
  obtain ⟨kk, h⟩ := Pure.FnExactSingle a0 x1.1 x1.2.1 x1.2.2.1 x1.2.2.2.1 x1.2.2.2.2 w0 hg1.1 hg1.2.1 hg1.2.2.1 hg1.2.2.2.1 hg1.2.2.2.2
  refine (P.laws_FnExactSingle.calls kk a0 x1.1 x1.2.1 x1.2.2.1 x1.2.2.2.1 x1.2.2.2.2 true W h).mono fun e W' ⟨he, bel0⟩ => ?_
  have bel : Below W.heap.size W W' := bel0
  subst he
  exact ⟨_, rfl, _, _, _, [], _, [], hW', trodAll_mk1 (shut_bool Try.underlying4 _), (trodAll_cons_mk (shut_int Try.underlying3 w0) (trodAll_cons_mk (Below.trod laidOut (by kernel_rfl) (of_decide_eq_true (by kernel_rfl)) k1 bel lt1) trodAll_mk0)), rfl, bel.frame _, fun h => by cases h⟩
theorem over : Rows.fnExactSingleRow.holds Try.pinned (OpenSpec.ofChange Rows.fnExactSingleSpec) :=
  OpenClaim.holds_of_wide 10 Try.f10 rfl rfl rfl rfl rfl rfl rfl ⟨rfl, rfl, rfl, rfl, rfl⟩ rfl rfl rfl rfl rfl (by kernel_rfl) Try.func10 (by kernel_rfl)
    (of_decide_eq_true (by kernel_rfl)) (by unfold Func.isWrapper; first | (rw [if_pos (by decide +kernel)]; kernel_rfl) | (rw [if_neg (by decide +kernel)]; exact ⟨rfl, rfl⟩))
    (fun os started H enc _ => lifted os started H enc)
theorem proved : Rows.FnExactSingleSaid := over
#print axioms proved
end Go.Proofs.Ythljdiniccpobaa.fnExactSingle
namespace Go.Proofs.Ythljdiniccpobaa
/-- The row, under a short name, for the claim. -/
theorem fnExactSingle_holds : Rows.FnExactSingleSaid := fnExactSingle.proved
end Go.Proofs.Ythljdiniccpobaa
