/- The statement of the law FnExactEntryOk: its row, out of the pure statement (YtbchblgnpkddpaaPureFnExactEntryOk) and the walk of its code. No condition. -/
import Derived.Test.YtbchblgnpkddpaaRows
import Derived.Test.YtbchblgnpkddpaaPFnExactEntryOkx1
import Derived.Test.YtbchblgnpkddpaaPureFnExactEntryOk
import Derived.Test.YtbchblgnpkddpaaGate
namespace Go.Proofs.Ytbchblgnpkddpaa.fnExactEntryOk
open Go.ChangeShapes Go.WideShapes Go.ChangeAt Go.RowKit
open Go.ChangeMaps (open_string shut_string)
open Go.Proofs.YtbchblgnpkddpaaW.PrintWords Go.Proofs.Ytbchblgnpkddpaa.PFnExactEntryOk
set_option linter.unusedVariables false
set_option linter.unusedSimpArgs false
theorem own : ownKnob Try.prog.godebug = none := by kernel_rfl
theorem laidOut : laidOutB Try.prog = true := by kernel_rfl
set_option maxRecDepth 100000 in
theorem lifted (os : Os) (started : os.Started) (H : Type) (enc : TypeId × Value → H) :
    ReturnsInHanded {} Try.checked os 4 .any (Rows.fnExactEntryOkSpec.pre6 enc Try.prog Try.f4 Rows.fnExactEntryOkRow.domain false) (Rows.fnExactEntryOkSpec.post enc Try.prog Try.f4 false true false false) := by
  refine returnsInHanded_of_change_sized (C := Try.checked) own started (by kernel_rfl) Try.func4
    (ChangeSpec.witness6 (enc := enc) (C := Try.checked) false ⟨#[], #[.agg #[.int .i64 0, .int .i64 0, .int .i64 0, .int .i64 0, .string ByteArray.empty]], []⟩ 8 (by kernel_rfl) (by kernel_rfl) (by kernel_rfl) (by kernel_rfl)) ?_
  intro W base args ds gs before hval0 hW hcnd hsz0 _
  have hsz : (DataW.weightsEach Try.prog (Try.f4.params.toList ++ Rows.fnExactEntryOkSpec.plain.varTypes Try.prog) (ds ++ gs)).all (· ≤ reachBytes) = true := hsz0
  have hval : ∀ (j : Nat) t v, Try.f4.params[j]? = some t → args[j]? = some v → Value.okWide Try.prog W .any base t v := hval0
  have hW' := hW
  obtain ⟨p, q, hA0, hV, rfl, hfz, hnd⟩ := hW
  have hA : DataW.TrodAll enc Try.prog W 0 (fun _ => true) true Try.f4.params.toList args.toList ds p := hA0
  rw [Try.params4] at hA hval hsz
  obtain ⟨v0, vs0, d0, ds0, p0, q0, hargs, rfl, rfl, h0, r0⟩ := trodAll_cons hA
  obtain ⟨rfl, rfl, rfl⟩ := trodAll_nil r0
  obtain rfl : args = #[v0] := by cases args; simp_all
  obtain ⟨rfl, rfl⟩ := trodVars_none hV
  have k0 := h0
  have lt0 : ∀ x ∈ p0, x.block < W.heap.size := by obtain ⟨m, hm⟩ := k0; exact DataW.trod_lt m _ _ _ hm
  obtain ⟨cs0, rfl, hz0⟩ := okWide_struct Try.underlying24 (hval 0 24 v0 rfl rfl)
  obtain ⟨fuel0, hf0⟩ := h0
  obtain ⟨x0, hk0, hg0⟩ := (Gate.opens_struct Try.underlying24 (by kernel_rfl) (Gate.opensF_cons rfl (by kernel_rfl) (Gate.opens_int Try.underlying3) (Gate.opensF_cons rfl (by kernel_rfl) (Gate.opens_int Try.underlying3) (Gate.opensF_cons rfl (by kernel_rfl) (Gate.opens_int Try.underlying3) (Gate.opensF_cons rfl (by kernel_rfl) (Gate.opens_int Try.underlying3) (Gate.opensF_one rfl (by kernel_rfl) (Gate.opens_string Try.underlying9))))))) fuel0 _ _ hf0 (Gate.weights_of hsz (j := 0) (t := 24) rfl rfl)
  obtain ⟨u0_0, w0_0, ew0_0, kk0_0, hk0_0⟩ := hk0
  obtain ⟨u0_1, w0_1, ew0_1, kk0_1, hk0_1⟩ := hk0_0
  obtain ⟨u0_2, w0_2, ew0_2, kk0_2, hk0_2⟩ := hk0_1
  obtain ⟨u0_3, w0_3, ew0_3, kk0_3, hk0_3⟩ := hk0_2
  have kk0_4 := hk0_3
  have e0_0 := kk0_0
  have e0_1 := kk0_1
  have e0_2 := kk0_2
  have e0_3 := kk0_3
  have e0_4 := kk0_4
  obtain rfl : cs0 = #[.int .i64 x0.1, .int .i64 x0.2.1, .int .i64 x0.2.2.1, .int .i64 x0.2.2.2.1, .string x0.2.2.2.2] := by
    apply Array.ext'
    have hd : cs0.toList = [.int .i64 x0.1, .int .i64 x0.2.1, .int .i64 x0.2.2.1, .int .i64 x0.2.2.2.1, .string x0.2.2.2.2] := by
      have z : (Value.agg cs0).cells.toList = [.int .i64 x0.1, .int .i64 x0.2.1, .int .i64 x0.2.2.1, .int .i64 x0.2.2.2.1, .string x0.2.2.2.2] := by
        try simp only [Kd.int, Kd.bool, Kd.string, Kd.scalar, List.drop_zero] at e0_0
        try simp only [Kd.int, Kd.bool, Kd.string, Kd.scalar, List.drop_zero] at e0_1
        try simp only [Kd.int, Kd.bool, Kd.string, Kd.scalar, List.drop_zero] at e0_2
        try simp only [Kd.int, Kd.bool, Kd.string, Kd.scalar, List.drop_zero] at e0_3
        try simp only [Kd.int, Kd.bool, Kd.string, Kd.scalar, List.drop_zero] at e0_4
        try simp only [List.drop_zero] at ew0_0
        rw [ew0_0, e0_0, ew0_1, e0_1, ew0_2, e0_2, ew0_3, e0_3]
        rw [e0_4]; rfl
      exact z
    exact hd
  have h := Pure.FnExactEntryOk x0.1 x0.2.1 x0.2.2.1 x0.2.2.2.1 x0.2.2.2.2 hg0.1 hg0.2.1 hg0.2.2.1 hg0.2.2.2.1 hg0.2.2.2.2
  refine (PFnExactEntryOk.laws_FnExactEntryOk.calls x0.1 x0.2.1 x0.2.2.1 x0.2.2.2.1 x0.2.2.2.2 true W h).mono fun e W' ⟨he, bel0⟩ => ?_
  have bel : Below W.heap.size W W' := bel0
  subst he
  exact ⟨_, rfl, _, _, _, [], _, [], hW', trodAll_mk1 (shut_bool Try.underlying4 _), (trodAll_cons_mk (Below.trod laidOut (by kernel_rfl) (of_decide_eq_true (by kernel_rfl)) k0 bel lt0) trodAll_mk0), rfl, bel.frame _, fun h => by cases h⟩
theorem over : Rows.fnExactEntryOkRow.holds Try.pinned (OpenSpec.ofChange Rows.fnExactEntryOkSpec) :=
  OpenClaim.holds_of_wide 4 Try.f4 rfl rfl rfl rfl rfl rfl rfl ⟨rfl, rfl, rfl, rfl, rfl⟩ rfl rfl rfl rfl rfl (by kernel_rfl) Try.func4 (by kernel_rfl)
    (of_decide_eq_true (by kernel_rfl)) (by unfold Func.isWrapper; first | (rw [if_pos (by decide +kernel)]; kernel_rfl) | (rw [if_neg (by decide +kernel)]; exact ⟨rfl, rfl⟩))
    (fun os started H enc _ => lifted os started H enc)
theorem proved : Rows.FnExactEntryOkSaid := over
#print axioms proved
end Go.Proofs.Ytbchblgnpkddpaa.fnExactEntryOk
namespace Go.Proofs.Ytbchblgnpkddpaa
/-- The row, under a short name, for the claim. -/
theorem fnExactEntryOk_holds : Rows.FnExactEntryOkSaid := fnExactEntryOk.proved
end Go.Proofs.Ytbchblgnpkddpaa
