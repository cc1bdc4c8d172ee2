-- by a program of this session, for this seat
import Derived.Test.YtomlglpmljngfaaDoorHandIo
import Derived.Test.YtomlglpmljngfaaDoorZ
import Derived.Test.YtomlglpmljngfaaDoorP0
import Derived.Test.YtomlglpmljngfaaDoorPaa
namespace Go.Proofs.YtomlglpmljngfaaDoor.P
open Go.RowKit Go.Proofs.YtomlglpmljngfaaDoorW.PrintWords Go.Proofs.YtomlglpmljngfaaDoorW.PrintLast Go.Proofs.YtomlglpmljngfaaDoorW.PrintMore Go.Proofs.YtomlglpmljngfaaDoor.Z Go.Proofs.YtomlglpmljngfaaDoor.HandIo
attribute [local go_sem] max2_int min2_int max_two min_two max_three min_three max_four min_four   -- for this text's walks alone
set_option linter.unusedVariables false
set_option linter.unusedSimpArgs false

/-! ### laws_FnExactDigits: function 3 -/
def laws_FnExactDigits.f (k : Nat) (a0 : Int) : Option (Bool) := (spec_Digits.f k a0).bind fun t108 => ((impl_Digits.f a0).bind fun t109 => (if t109.toList = t108.toList then (some true) else (some false)))
theorem laws_FnExactDigits.mono : ∀ a0 k, LeO (laws_FnExactDigits.f k a0) (laws_FnExactDigits.f (k + 1) a0) := by
 intro a0 k
 unfold laws_FnExactDigits.f
 repeat' first | (with_reducible first | exact LeO.refl _ | exact LeO.none _ | refine LeO.ite ?_ ?_ | refine LeO.bind ?_ (fun _ => ?_) | apply spec_Digits.mono) | apply spec_Digits.mono | exact LeO.none _ | refine LeO.ite ?_ ?_ | refine LeO.bind ?_ (fun _ => ?_)
set_option maxHeartbeats 80000000 in
set_option maxRecDepth 100000 in
theorem laws_FnExactDigits.calls (k : Nat) (a0 : Int) (r : Bool) (w : World) (hT : Go.Proofs.YtomlglpmljngfaaDoor.HandIo.TI w) (h : laws_FnExactDigits.f k a0 = some r) (hr_ : r = true) :
  Calls Tryd.prog 3 #[.int .i64 a0] w fun e w' => e = .returned (.bool r) ∧ Below w.heap.size w w' := by
 have HT := zm hT; clear hT
 have HRT := zm hr_; clear hr_; have HB := zm (Below.refl w.heap.size w); have H : ((spec_Digits.f k a0).bind fun AA => ((impl_Digits.f a0).bind fun AB => (if AB.toList = AA.toList then (some true) else (some false)))) = some r := h; clear h; replace H := Option.bind_eq_some_iff.mp H; obtain ⟨AA, AC, H⟩ := H; (try dsimp only at H); have A2 := zm AC; clear AC; replace H := Option.bind_eq_some_iff.mp H; obtain ⟨AB, AD, H⟩ := H; (try dsimp only at H); have A3 := zm AD; clear AD
 by_cases c4 : AB.toList = AA.toList
 ·rw [if_pos c4] at H; have AE : (AB.toList == AA.toList) = true := beq_iff_eq.mpr c4; have AF : (AB.toList != AA.toList) = false := bne_eq_false_iff_eq.mpr c4; clear c4; obtain rfl := Option.some.inj H; go_enter Tryd.func3, Tryd.ntmps3
  go_wp2_with (first | ((with_reducible refine gate_callee (f := 10) rfl ?_); refine zg (some 6) #[.int .i64 a0] Tryd.func10 ?_; (with_reducible refine (spec_Digits.calls k a0 AA _ A2.out).mono ?_); rintro e w5 ⟨rfl, hb⟩; refine ⟨_, rfl, ?_⟩; replace HB := zm (below_step zB hb); clear hb) | ((with_reducible refine gate_callee (f := 11) rfl ?_); refine zg (some 8) #[.int .i64 a0] Tryd.func11 ?_; (with_reducible refine (impl_Digits.calls a0 AB _ zT A3.out).mono ?_); rintro e w6 ⟨rfl, hb⟩; refine ⟨_, rfl, ?_⟩; replace HB := zm (below_step zB hb); clear hb))
  go_ret
  exact ⟨zE, zB⟩
 ·rw [if_neg c4] at H; have AE : (AB.toList == AA.toList) = false := beq_eq_false_iff_ne.mpr c4; have AF : (AB.toList != AA.toList) = true := bne_iff_ne.mpr c4; rw [HRT.out] at H; cases H

def laws_FnExactDigits.Pure : Prop := ∀ (a0 : Int), (Lit.int .i64 a0).wf = true → ∃ k, laws_FnExactDigits.f k a0 = some true

end Go.Proofs.YtomlglpmljngfaaDoor.P
