/- The statement of the law FnExactEntryText: its row, out of the pure statement (YtomlglpmljngfaaDoorPureFnExactEntryText) and the walk of its code; what its row lists of the library's variables is used; the card's tie is given. -/
import Derived.Test.YtomlglpmljngfaaDoorRows
import Derived.Test.YtomlglpmljngfaaDoorPlFnExactEntryText
import Derived.Test.YtomlglpmljngfaaDoorPureFnExactEntryText
import Derived.Test.YtomlglpmljngfaaDoorGate
import Derived.Test.YtomlglpmljngfaaDoorLaid
import Derived.Test.YtomlglpmljngfaaDoorCards
import Derived.Test.YtomlglpmljngfaaDoorTie
import Derived.SizedLaws
import Derived.ChangeVars
import Derived.RowKitTokens
import Derived.LaidLaws
import Derived.SevenTiedAt
namespace Go.Proofs.YtomlglpmljngfaaDoor.fnExactEntryText
open Go.ChangeShapes Go.WideShapes Go.ChangeAt Go.RowKit
open Go.ChangeMaps (open_string shut_string)
open Go.Proofs.YtomlglpmljngfaaDoorW.PrintWords Go.Proofs.YtomlglpmljngfaaDoor.P
set_option linter.unusedVariables false
set_option linter.unusedSimpArgs false
theorem own : ownKnob Tryd.prog.godebug = none := by kernel_rfl
theorem laidOut : laidOutB Tryd.prog = true := by kernel_rfl
set_option maxRecDepth 100000 in
theorem lifted (os : Os) (started : os.Started) (H : Type) (enc : TypeId × Value → H) :
    ReturnsInHanded {} Tryd.checked os 4 .any (fun w args => (Rows.fnExactEntryTextSpec.pre enc Tryd.prog Tryd.f4 Rows.fnExactEntryTextRow.domain false w args ∧ laidMet Tryd.prog Laid.tabs w) ∧ sizedMet enc Tryd.prog Tryd.f4 (OpenSpec.ofChange Rows.fnExactEntryTextSpec) false w args) (Rows.fnExactEntryTextSpec.post enc Tryd.prog Tryd.f4 false true false false) := by
  refine returnsInHanded_of_change_and (C := Tryd.checked) (X := fun w _ => laidMet Tryd.prog Laid.tabs w) (fun _ _ _ hh h => h.of_heap hh) own started (by kernel_rfl) Tryd.func4
    (ChangeSpec.witness_at (enc := enc) (C := Tryd.checked) (os := os) (X := fun w _ => laidMet Tryd.prog Laid.tabs w) false (Laid.laidWorld os) #[.agg #[.int .i64 0, .int .i64 0, .int .i64 0, .int .i64 0, .string ByteArray.empty]] 8 rfl (by kernel_rfl) (by kernel_rfl) (by kernel_rfl) (by kernel_rfl) (by kernel_rfl) (Laid.laid_met os _)) ?_
  intro W base args ds gs before hval0 hW _ hsz0 hL _
  have hsz : (DataW.weightsEach Tryd.prog (Tryd.f4.params.toList ++ Rows.fnExactEntryTextSpec.plain.varTypes Tryd.prog) (ds ++ gs)).all (· ≤ reachBytes) = true := hsz0
  have hval : ∀ (j : Nat) t v, Tryd.f4.params[j]? = some t → args[j]? = some v → Value.okWide Tryd.prog W .any base t v := hval0
  have hW' := hW
  obtain ⟨p, q, hA0, hV, rfl, hfz, hnd⟩ := hW
  have hA : DataW.TrodAll enc Tryd.prog W 0 (fun _ => true) true Tryd.f4.params.toList args.toList ds p := hA0
  rw [Tryd.params4] at hA hval hsz
  obtain ⟨v0, vs0, d0, ds0, p0, q0, hargs, rfl, rfl, h0, r0⟩ := trodAll_cons hA
  obtain ⟨rfl, rfl, rfl⟩ := trodAll_nil r0
  obtain rfl : args = #[v0] := by cases args; simp_all
  obtain ⟨rfl, rfl⟩ := trodVars_none hV
  have k0 := h0
  have lt0 : ∀ x ∈ p0, x.block < W.heap.size := by obtain ⟨m, hm⟩ := k0; exact DataW.trod_lt m _ _ _ hm
  obtain ⟨cs0, rfl, hz0⟩ := okWide_struct Tryd.underlying25 (hval 0 25 v0 rfl rfl)
  obtain ⟨fuel0, hf0⟩ := h0
  obtain ⟨x0, hk0, hg0⟩ := (Gate.opens_struct Tryd.underlying25 (by kernel_rfl) (Gate.opensF_cons rfl (by kernel_rfl) (Gate.opens_int Tryd.underlying3) (Gate.opensF_cons rfl (by kernel_rfl) (Gate.opens_int Tryd.underlying3) (Gate.opensF_cons rfl (by kernel_rfl) (Gate.opens_int Tryd.underlying3) (Gate.opensF_cons rfl (by kernel_rfl) (Gate.opens_int Tryd.underlying3) (Gate.opensF_one rfl (by kernel_rfl) (Gate.opens_string Tryd.underlying9))))))) fuel0 _ _ hf0 (Gate.weights_of hsz (j := 0) (t := 25) rfl rfl)
  obtain ⟨u0_0, w0_0, ew0_0, kk0_0, hk0_0⟩ := hk0
  obtain ⟨u0_1, w0_1, ew0_1, kk0_1, hk0_1⟩ := hk0_0
  obtain ⟨u0_2, w0_2, ew0_2, kk0_2, hk0_2⟩ := hk0_1
  obtain ⟨u0_3, w0_3, ew0_3, kk0_3, hk0_3⟩ := hk0_2
  have kk0_4 := hk0_3
  have e0_0 := kk0_0
  have e0_1 := kk0_1
  have e0_2 := kk0_2
  have e0_3 := kk0_3
  have e0_4 := kk0_4
  obtain rfl : cs0 = #[.int .i64 x0.1, .int .i64 x0.2.1, .int .i64 x0.2.2.1, .int .i64 x0.2.2.2.1, .string x0.2.2.2.2] := by
    apply Array.ext'
    have hd : cs0.toList = [.int .i64 x0.1, .int .i64 x0.2.1, .int .i64 x0.2.2.1, .int .i64 x0.2.2.2.1, .string x0.2.2.2.2] := by
      have z : (Value.agg cs0).cells.toList = [.int .i64 x0.1, .int .i64 x0.2.1, .int .i64 x0.2.2.1, .int .i64 x0.2.2.2.1, .string x0.2.2.2.2] := by
        try simp only [Kd.int, Kd.bool, Kd.string, Kd.scalar, List.drop_zero] at e0_0
        try simp only [Kd.int, Kd.bool, Kd.string, Kd.scalar, List.drop_zero] at e0_1
        try simp only [Kd.int, Kd.bool, Kd.string, Kd.scalar, List.drop_zero] at e0_2
        try simp only [Kd.int, Kd.bool, Kd.string, Kd.scalar, List.drop_zero] at e0_3
        try simp only [Kd.int, Kd.bool, Kd.string, Kd.scalar, List.drop_zero] at e0_4
        try simp only [List.drop_zero] at ew0_0
        rw [ew0_0, e0_0, ew0_1, e0_1, ew0_2, e0_2, ew0_3, e0_3]
        rw [e0_4]; rfl
      exact z
    exact hd
  obtain ⟨kk, h⟩ := Pure.FnExactEntryText x0.1 x0.2.1 x0.2.2.1 x0.2.2.2.1 x0.2.2.2.2 hg0.1 hg0.2.1 hg0.2.2.1 hg0.2.2.2.1 hg0.2.2.2.2
  refine (P.laws_FnExactEntryText.calls kk x0.1 x0.2.1 x0.2.2.1 x0.2.2.2.1 x0.2.2.2.2 true W (Laid.ti hL) h rfl).mono fun e W' ⟨he, bel0⟩ => ?_
  have bel : Below W.heap.size W W' := bel0
  subst he
  exact ⟨_, rfl, _, _, _, [], _, [], hW', trodAll_mk1 (shut_bool Tryd.underlying4 _), (trodAll_cons_mk (Below.trod laidOut (by kernel_rfl) (of_decide_eq_true (by kernel_rfl)) k0 bel lt0) trodAll_mk0), rfl, bel.frame _, fun h => by cases h⟩
theorem over : Rows.fnExactEntryTextRow.holds Tryd.pinned (OpenSpec.ofChange Rows.fnExactEntryTextSpec) :=
  OpenClaim.holds_of_wide 4 Tryd.f4 rfl rfl rfl rfl rfl rfl rfl ⟨rfl, rfl, rfl, rfl, rfl⟩ rfl rfl rfl rfl rfl (by kernel_rfl) Tryd.func4 (by kernel_rfl)
    (of_decide_eq_true (by kernel_rfl)) (by unfold Func.isWrapper; first | (rw [if_pos (by decide +kernel)]; kernel_rfl) | (rw [if_neg (by decide +kernel)]; exact ⟨rfl, rfl⟩))
    (fun os started H enc _ => lifted os started H enc)
theorem proved : Rows.FnExactEntryTextCardSaid :=
  Claim7.holds_tied_plain_at .later [] [.data, .data, .data] true (true, (Rows.fnExactEntryTextCard).stood.harness.2) true
    over (fun _ h => by cases h) (by kernel_rfl) (fun _ h => by cases h) fnExactEntryText_row_tie rfl ⟨rfl, rfl⟩ (by kernel_rfl) rfl
    (fun f fn hf hfn => by
      obtain rfl : f = 4 := Option.some.inj ((show Tryd.prog.funcNamed "loop.example/g00487/laws.FnExactEntryText" = some 4 by kernel_rfl).symm.trans hf) |>.symm
      obtain rfl : fn = Tryd.f4 := (Option.some.inj (Tryd.func4.symm.trans hfn)).symm
      exact ⟨by kernel_rfl, Laid.noStandIn (fun j t ht => by rw [Tryd.params4] at ht; exact ht) (by kernel_rfl)⟩)
    (by kernel_rfl)
#print axioms proved
end Go.Proofs.YtomlglpmljngfaaDoor.fnExactEntryText
namespace Go.Proofs.YtomlglpmljngfaaDoor
/-- The row, under a short name, for the claim. -/
theorem fnExactEntryText_holds : Rows.FnExactEntryTextCardSaid := fnExactEntryText.proved
end Go.Proofs.YtomlglpmljngfaaDoor
