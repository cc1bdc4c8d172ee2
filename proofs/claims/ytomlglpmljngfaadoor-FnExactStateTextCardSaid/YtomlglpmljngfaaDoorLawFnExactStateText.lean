/- The statement of the law FnExactStateText: its row, out of the pure statement (YtomlglpmljngfaaDoorPureFnExactStateText) and the walk of its code; what its row lists of the library's variables is used; the card's tie is given. -/
import Derived.Test.YtomlglpmljngfaaDoorRows
import Derived.Test.YtomlglpmljngfaaDoorPlFnExactStateText
import Derived.Test.YtomlglpmljngfaaDoorPureFnExactStateText
import Derived.Test.YtomlglpmljngfaaDoorGate
import Derived.Test.YtomlglpmljngfaaDoorLaid
import Derived.Test.YtomlglpmljngfaaDoorCards
import Derived.Test.YtomlglpmljngfaaDoorTie
import Derived.SizedLaws
import Derived.ChangeVars
import Derived.RowKitTokens
import Derived.LaidLaws
import Derived.SevenTiedAt
namespace Go.Proofs.YtomlglpmljngfaaDoor.fnExactStateText
open Go.ChangeShapes Go.WideShapes Go.ChangeAt Go.RowKit
open Go.ChangeMaps (open_string shut_string)
open Go.Proofs.YtomlglpmljngfaaDoorW.PrintWords Go.Proofs.YtomlglpmljngfaaDoor.P
set_option linter.unusedVariables false
set_option linter.unusedSimpArgs false
theorem own : ownKnob Tryd.prog.godebug = none := by kernel_rfl
theorem laidOut : laidOutB Tryd.prog = true := by kernel_rfl
set_option maxRecDepth 100000 in
theorem lifted (os : Os) (started : os.Started) (H : Type) (enc : TypeId × Value → H) :
    ReturnsInHanded {} Tryd.checked os 6 .any (fun w args => (Rows.fnExactStateTextSpec.pre enc Tryd.prog Tryd.f6 Rows.fnExactStateTextRow.domain false w args ∧ laidMet Tryd.prog Laid.tabs w) ∧ sizedMet enc Tryd.prog Tryd.f6 (OpenSpec.ofChange Rows.fnExactStateTextSpec) false w args) (Rows.fnExactStateTextSpec.post enc Tryd.prog Tryd.f6 false true false false) := by
  refine returnsInHanded_of_change_and (C := Tryd.checked) (X := fun w _ => laidMet Tryd.prog Laid.tabs w) (fun _ _ _ hh h => h.of_heap hh) own started (by kernel_rfl) Tryd.func6
    (ChangeSpec.witness_at (enc := enc) (C := Tryd.checked) (os := os) (X := fun w _ => laidMet Tryd.prog Laid.tabs w) false (Laid.laidWorld os) #[.agg #[.slice none 0 0, .slice none 0 0]] 8 rfl (by kernel_rfl) (by kernel_rfl) (by kernel_rfl) (by kernel_rfl) (by kernel_rfl) (Laid.laid_met os _)) ?_
  intro W base args ds gs before hval0 hW _ hsz0 hL _
  have hsz : (DataW.weightsEach Tryd.prog (Tryd.f6.params.toList ++ Rows.fnExactStateTextSpec.plain.varTypes Tryd.prog) (ds ++ gs)).all (· ≤ reachBytes) = true := hsz0
  have hval : ∀ (j : Nat) t v, Tryd.f6.params[j]? = some t → args[j]? = some v → Value.okWide Tryd.prog W .any base t v := hval0
  have hW' := hW
  obtain ⟨p, q, hA0, hV, rfl, hfz, hnd⟩ := hW
  have hA : DataW.TrodAll enc Tryd.prog W 0 (fun _ => true) true Tryd.f6.params.toList args.toList ds p := hA0
  rw [Tryd.params6] at hA hval hsz
  obtain ⟨v0, vs0, d0, ds0, p0, q0, hargs, rfl, rfl, h0, r0⟩ := trodAll_cons hA
  obtain ⟨rfl, rfl, rfl⟩ := trodAll_nil r0
  obtain rfl : args = #[v0] := by cases args; simp_all
  obtain ⟨rfl, rfl⟩ := trodVars_none hV
  have k0 := h0
  have lt0 : ∀ x ∈ p0, x.block < W.heap.size := by obtain ⟨m, hm⟩ := k0; exact DataW.trod_lt m _ _ _ hm
  obtain ⟨cs0, rfl, hz0⟩ := okWide_struct Tryd.underlying39 (hval 0 39 v0 rfl rfl)
  obtain ⟨fuel0, hf0⟩ := h0
  obtain ⟨x0, hk0, hg0⟩ := (Gate.opens_struct Tryd.underlying39 (by kernel_rfl) (Gate.opensF_cons rfl (by kernel_rfl) (Gate.opens_slice (d := k84) Tryd.underlying36 (by kernel_rfl) (by kernel_rfl) (Gate.opens_iso (f := fun x : S84 => (x.f0, x.f1)) (fun p => ⟨p.1, p.2⟩) (fun _ => rfl) (Gate.opens_struct Tryd.underlying84 (by kernel_rfl) (Gate.opensF_cons rfl (by kernel_rfl) (Gate.opens_int Tryd.underlying3) (Gate.opensF_one rfl (by kernel_rfl) (Gate.opens_iso (f := fun x : S25 => (x.f0, x.f1, x.f2, x.f3, x.f4)) (fun p => ⟨p.1, p.2.1, p.2.2.1, p.2.2.2.1, p.2.2.2.2⟩) (fun _ => rfl) (Gate.opens_struct Tryd.underlying25 (by kernel_rfl) (Gate.opensF_cons rfl (by kernel_rfl) (Gate.opens_int Tryd.underlying3) (Gate.opensF_cons rfl (by kernel_rfl) (Gate.opens_int Tryd.underlying3) (Gate.opensF_cons rfl (by kernel_rfl) (Gate.opens_int Tryd.underlying3) (Gate.opensF_cons rfl (by kernel_rfl) (Gate.opens_int Tryd.underlying3) (Gate.opensF_one rfl (by kernel_rfl) (Gate.opens_string Tryd.underlying9))))))))))))) (Gate.opensF_one rfl (by kernel_rfl) (Gate.opens_slice (d := k87) Tryd.underlying37 (by kernel_rfl) (by kernel_rfl) (Gate.opens_iso (f := fun x : S87 => (x.f0, x.f1)) (fun p => ⟨p.1, p.2⟩) (fun _ => rfl) (Gate.opens_struct Tryd.underlying87 (by kernel_rfl) (Gate.opensF_cons rfl (by kernel_rfl) (Gate.opens_int Tryd.underlying3) (Gate.opensF_one rfl (by kernel_rfl) (Gate.opens_int Tryd.underlying3))))))))) fuel0 _ _ hf0 (Gate.weights_of hsz (j := 0) (t := 39) rfl rfl)
  obtain ⟨u0_0, w0_0, ew0_0, kk0_0, hk0_0⟩ := hk0
  have kk0_1 := hk0_0
  obtain ⟨A0_0, c0_0, e0_0, hc0_0, hr0_0⟩ := kk0_0
  obtain ⟨A0_1, c0_1, e0_1, hc0_1, hr0_1⟩ := kk0_1
  obtain rfl : cs0 = #[.slice A0_0 x0.1.length c0_0, .slice A0_1 x0.2.length c0_1] := by
    apply Array.ext'
    have hd : cs0.toList = [.slice A0_0 x0.1.length c0_0, .slice A0_1 x0.2.length c0_1] := by
      have z : (Value.agg cs0).cells.toList = [.slice A0_0 x0.1.length c0_0, .slice A0_1 x0.2.length c0_1] := by
        try simp only [Kd.int, Kd.bool, Kd.string, Kd.scalar, List.drop_zero] at e0_0
        try simp only [Kd.int, Kd.bool, Kd.string, Kd.scalar, List.drop_zero] at e0_1
        try simp only [List.drop_zero] at ew0_0
        rw [ew0_0, e0_0]
        rw [e0_1]; rfl
      exact z
    exact hd
  obtain ⟨kk, h⟩ := Pure.FnExactStateText x0.1 x0.2 hg0.1.1 hg0.1.2.1 hg0.1.2.2 hg0.2.1 hg0.2.2.1 hg0.2.2.2
  refine (P.laws_FnExactStateText.calls kk _ _ x0.1 _ _ x0.2 true W hr0_0 hc0_0 hr0_1 hc0_1 (Laid.ti hL) h rfl).mono fun e W' ⟨he, bel0⟩ => ?_
  have bel : Below W.heap.size W W' := bel0
  subst he
  exact ⟨_, rfl, _, _, _, [], _, [], hW', trodAll_mk1 (shut_bool Tryd.underlying4 _), (trodAll_cons_mk (Below.trod laidOut (by kernel_rfl) (of_decide_eq_true (by kernel_rfl)) k0 bel lt0) trodAll_mk0), rfl, bel.frame _, fun h => by cases h⟩
theorem over : Rows.fnExactStateTextRow.holds Tryd.pinned (OpenSpec.ofChange Rows.fnExactStateTextSpec) :=
  OpenClaim.holds_of_wide 6 Tryd.f6 rfl rfl rfl rfl rfl rfl rfl ⟨rfl, rfl, rfl, rfl, rfl⟩ rfl rfl rfl rfl rfl (by kernel_rfl) Tryd.func6 (by kernel_rfl)
    (of_decide_eq_true (by kernel_rfl)) (by unfold Func.isWrapper; first | (rw [if_pos (by decide +kernel)]; kernel_rfl) | (rw [if_neg (by decide +kernel)]; exact ⟨rfl, rfl⟩))
    (fun os started H enc _ => lifted os started H enc)
theorem proved : Rows.FnExactStateTextCardSaid :=
  Claim7.holds_tied_plain_at .later [] [.data, .data, .data] true (true, (Rows.fnExactStateTextCard).stood.harness.2) true
    over (fun _ h => by cases h) (by kernel_rfl) (fun _ h => by cases h) fnExactStateText_row_tie rfl ⟨rfl, rfl⟩ (by kernel_rfl) rfl
    (fun f fn hf hfn => by
      obtain rfl : f = 6 := Option.some.inj ((show Tryd.prog.funcNamed "loop.example/g00487/laws.FnExactStateText" = some 6 by kernel_rfl).symm.trans hf) |>.symm
      obtain rfl : fn = Tryd.f6 := (Option.some.inj (Tryd.func6.symm.trans hfn)).symm
      exact ⟨by kernel_rfl, Laid.noStandIn (fun j t ht => by rw [Tryd.params6] at ht; exact ht) (by kernel_rfl)⟩)
    (by kernel_rfl)
#print axioms proved
end Go.Proofs.YtomlglpmljngfaaDoor.fnExactStateText
namespace Go.Proofs.YtomlglpmljngfaaDoor
/-- The row, under a short name, for the claim. -/
theorem fnExactStateText_holds : Rows.FnExactStateTextCardSaid := fnExactStateText.proved
end Go.Proofs.YtomlglpmljngfaaDoor
