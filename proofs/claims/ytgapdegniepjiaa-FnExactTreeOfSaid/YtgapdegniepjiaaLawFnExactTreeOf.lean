/- The statement of the law FnExactTreeOf: its row, out of the pure statement (YtgapdegniepjiaaPureFnExactTreeOf) and the walk of its code. No condition. -/
import Derived.Test.YtgapdegniepjiaaRows
import Derived.Test.YtgapdegniepjiaaPlFnExactTreeOf
import Derived.Test.YtgapdegniepjiaaPureFnExactTreeOf
import Derived.Test.YtgapdegniepjiaaGate
namespace Go.Proofs.Ytgapdegniepjiaa.fnExactTreeOf
open Go.ChangeShapes Go.WideShapes Go.ChangeAt Go.RowKit
open Go.ChangeMaps (open_string shut_string)
open Go.Proofs.YtgapdegniepjiaaW.PrintWords Go.Proofs.Ytgapdegniepjiaa.P
set_option linter.unusedVariables false
set_option linter.unusedSimpArgs false
theorem own : ownKnob Try.prog.godebug = none := by kernel_rfl
theorem laidOut : laidOutB Try.prog = true := by kernel_rfl
set_option maxRecDepth 100000 in
theorem lifted (os : Os) (started : os.Started) (H : Type) (enc : TypeId × Value → H) :
    ReturnsInHanded {} Try.checked os 12 .any (Rows.fnExactTreeOfSpec.pre6 enc Try.prog Try.f12 Rows.fnExactTreeOfRow.domain false) (Rows.fnExactTreeOfSpec.post enc Try.prog Try.f12 false true false false) := by
  refine returnsInHanded_of_change_sized (C := Try.checked) own started (by kernel_rfl) Try.func12
    (ChangeSpec.witness6 (enc := enc) (C := Try.checked) false ⟨#[], #[.agg #[.slice none 0 0, .slice none 0 0]], []⟩ 8 (by kernel_rfl) (by kernel_rfl) (by kernel_rfl) (by kernel_rfl)) ?_
  intro W base args ds gs before hval0 hW hcnd hsz0 _
  have hsz : (DataW.weightsEach Try.prog (Try.f12.params.toList ++ Rows.fnExactTreeOfSpec.plain.varTypes Try.prog) (ds ++ gs)).all (· ≤ reachBytes) = true := hsz0
  have hval : ∀ (j : Nat) t v, Try.f12.params[j]? = some t → args[j]? = some v → Value.okWide Try.prog W .any base t v := hval0
  have hW' := hW
  obtain ⟨p, q, hA0, hV, rfl, hfz, hnd⟩ := hW
  have hA : DataW.TrodAll enc Try.prog W 0 (fun _ => true) true Try.f12.params.toList args.toList ds p := hA0
  rw [Try.params12] at hA hval hsz
  obtain ⟨v0, vs0, d0, ds0, p0, q0, hargs, rfl, rfl, h0, r0⟩ := trodAll_cons hA
  obtain ⟨rfl, rfl, rfl⟩ := trodAll_nil r0
  obtain rfl : args = #[v0] := by cases args; simp_all
  obtain ⟨rfl, rfl⟩ := trodVars_none hV
  have k0 := h0
  have lt0 : ∀ x ∈ p0, x.block < W.heap.size := by obtain ⟨m, hm⟩ := k0; exact DataW.trod_lt m _ _ _ hm
  obtain ⟨cs0, rfl, hz0⟩ := okWide_struct Try.underlying25 (hval 0 25 v0 rfl rfl)
  obtain ⟨fuel0, hf0⟩ := h0
  obtain ⟨x0, hk0, hg0⟩ := (Gate.opens_struct Try.underlying25 (by kernel_rfl) (Gate.opensF_cons rfl (by kernel_rfl) (Gate.opens_slice (d := k94) Try.underlying22 (by kernel_rfl) (by kernel_rfl) (Gate.opens_iso (f := fun x : S94 => (x.f0, x.f1)) (fun p => ⟨p.1, p.2⟩) (fun _ => rfl) (Gate.opens_struct Try.underlying94 (by kernel_rfl) (Gate.opensF_cons rfl (by kernel_rfl) (Gate.opens_int Try.underlying3) (Gate.opensF_one rfl (by kernel_rfl) (Gate.opens_iso (f := fun x : S92 => (x.f0, x.f1, x.f2, x.f3, x.f4)) (fun p => ⟨p.1, p.2.1, p.2.2.1, p.2.2.2.1, p.2.2.2.2⟩) (fun _ => rfl) (Gate.opens_struct Try.underlying92 (by kernel_rfl) (Gate.opensF_cons rfl (by kernel_rfl) (Gate.opens_int Try.underlying3) (Gate.opensF_cons rfl (by kernel_rfl) (Gate.opens_int Try.underlying3) (Gate.opensF_cons rfl (by kernel_rfl) (Gate.opens_int Try.underlying3) (Gate.opensF_cons rfl (by kernel_rfl) (Gate.opens_int Try.underlying3) (Gate.opensF_one rfl (by kernel_rfl) (Gate.opens_string Try.underlying9))))))))))))) (Gate.opensF_one rfl (by kernel_rfl) (Gate.opens_slice (d := k98) Try.underlying23 (by kernel_rfl) (by kernel_rfl) (Gate.opens_iso (f := fun x : S98 => (x.f0, x.f1)) (fun p => ⟨p.1, p.2⟩) (fun _ => rfl) (Gate.opens_struct Try.underlying98 (by kernel_rfl) (Gate.opensF_cons rfl (by kernel_rfl) (Gate.opens_int Try.underlying3) (Gate.opensF_one rfl (by kernel_rfl) (Gate.opens_int Try.underlying3))))))))) fuel0 _ _ hf0 (Gate.weights_of hsz (j := 0) (t := 25) rfl rfl)
  obtain ⟨u0_0, w0_0, ew0_0, kk0_0, hk0_0⟩ := hk0
  have kk0_1 := hk0_0
  obtain ⟨A0_0, c0_0, e0_0, hc0_0, hr0_0⟩ := kk0_0
  obtain ⟨A0_1, c0_1, e0_1, hc0_1, hr0_1⟩ := kk0_1
  obtain rfl : cs0 = #[.slice A0_0 x0.1.length c0_0, .slice A0_1 x0.2.length c0_1] := by
    apply Array.ext'
    have hd : cs0.toList = [.slice A0_0 x0.1.length c0_0, .slice A0_1 x0.2.length c0_1] := by
      have z : (Value.agg cs0).cells.toList = [.slice A0_0 x0.1.length c0_0, .slice A0_1 x0.2.length c0_1] := by
        try simp only [Kd.int, Kd.bool, Kd.string, Kd.scalar, List.drop_zero] at e0_0
        try simp only [Kd.int, Kd.bool, Kd.string, Kd.scalar, List.drop_zero] at e0_1
        try simp only [List.drop_zero] at ew0_0
        rw [ew0_0, e0_0]
        rw [e0_1]; rfl
      exact z
    exact hd
  obtain ⟨kk, h⟩ := Pure.FnExactTreeOf x0.1 x0.2 hg0.1.1 hg0.1.2.1 hg0.1.2.2 hg0.2.1 hg0.2.2.1 hg0.2.2.2
  refine (P.laws_FnExactTreeOf.calls kk _ _ x0.1 _ _ x0.2 true W hr0_0 hc0_0 hr0_1 hc0_1 h rfl).mono fun e W' ⟨he, bel0⟩ => ?_
  have bel : Below W.heap.size W W' := bel0
  subst he
  exact ⟨_, rfl, _, _, _, [], _, [], hW', trodAll_mk1 (shut_bool Try.underlying4 _), (trodAll_cons_mk (Below.trod laidOut (by kernel_rfl) (of_decide_eq_true (by kernel_rfl)) k0 bel lt0) trodAll_mk0), rfl, bel.frame _, fun h => by cases h⟩
theorem over : Rows.fnExactTreeOfRow.holds Try.pinned (OpenSpec.ofChange Rows.fnExactTreeOfSpec) :=
  OpenClaim.holds_of_wide 12 Try.f12 rfl rfl rfl rfl rfl rfl rfl ⟨rfl, rfl, rfl, rfl, rfl⟩ rfl rfl rfl rfl rfl (by kernel_rfl) Try.func12 (by kernel_rfl)
    (of_decide_eq_true (by kernel_rfl)) (by unfold Func.isWrapper; first | (rw [if_pos (by decide +kernel)]; kernel_rfl) | (rw [if_neg (by decide +kernel)]; exact ⟨rfl, rfl⟩))
    (fun os started H enc _ => lifted os started H enc)
theorem proved : Rows.FnExactTreeOfSaid := over
#print axioms proved
end Go.Proofs.Ytgapdegniepjiaa.fnExactTreeOf
namespace Go.Proofs.Ytgapdegniepjiaa
/-- The row, under a short name, for the claim. -/
theorem fnExactTreeOf_holds : Rows.FnExactTreeOfSaid := fnExactTreeOf.proved
end Go.Proofs.Ytgapdegniepjiaa
