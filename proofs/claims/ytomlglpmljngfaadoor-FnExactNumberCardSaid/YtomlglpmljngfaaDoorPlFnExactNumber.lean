-- by a program of this session, for this seat
import Derived.Test.YtomlglpmljngfaaDoorHandIo
import Derived.Test.YtomlglpmljngfaaDoorZ
import Derived.Test.YtomlglpmljngfaaDoorP0
import Derived.Test.YtomlglpmljngfaaDoorPan
namespace Go.Proofs.YtomlglpmljngfaaDoor.P
open Go.RowKit Go.Proofs.YtomlglpmljngfaaDoorW.PrintWords Go.Proofs.YtomlglpmljngfaaDoorW.PrintLast Go.Proofs.YtomlglpmljngfaaDoorW.PrintMore Go.Proofs.YtomlglpmljngfaaDoor.Z Go.Proofs.YtomlglpmljngfaaDoor.HandIo
attribute [local go_sem] max2_int min2_int max_two min_two max_three min_three max_four min_four   -- for this text's walks alone
set_option linter.unusedVariables false
set_option linter.unusedSimpArgs false

/-! ### laws_FnExactNumber: function 7 -/
def laws_FnExactNumber.f (k : Nat) (a0 : ByteArray) : Option (Bool) := if (a0.size : Int) > 1048576 then (some true) else ((spec_Number.f k a0).bind fun bt307 => ((impl_Number.f a0).bind fun bt309 => (if bt309.1 = bt307.1 then (if (bt309.2 != bt307.2) = true then (some false) else (some true)) else (some false))))
theorem laws_FnExactNumber.mono : ∀ a0 k, LeO (laws_FnExactNumber.f k a0) (laws_FnExactNumber.f (k + 1) a0) := by
 intro a0 k
 unfold laws_FnExactNumber.f
 repeat' first | (with_reducible first | exact LeO.refl _ | exact LeO.none _ | refine LeO.ite ?_ ?_ | refine LeO.bind ?_ (fun _ => ?_) | apply spec_Number.mono) | apply spec_Number.mono | exact LeO.none _ | refine LeO.ite ?_ ?_ | refine LeO.bind ?_ (fun _ => ?_)
set_option maxHeartbeats 80000000 in
set_option maxRecDepth 100000 in
theorem laws_FnExactNumber.calls (k : Nat) (a0 : ByteArray) (r : Bool) (w : World) (hT : Go.Proofs.YtomlglpmljngfaaDoor.HandIo.TN w) (h : laws_FnExactNumber.f k a0 = some r) (hr_ : r = true) :
  Calls Tryd.prog 7 #[.string a0] w fun e w' => e = .returned (.bool r) ∧ Below w.heap.size w w' := by
 have HT := zm hT; clear hT
 have HRT := zm hr_; clear hr_; have HB := zm (Below.refl w.heap.size w); have H : (if (a0.size : Int) > 1048576 then (some true) else ((spec_Number.f k a0).bind fun AE => ((impl_Number.f a0).bind fun AF => (if AF.1 = AE.1 then (if (AF.2 != AE.2) = true then (some false) else (some true)) else (some false))))) = some r := h; clear h
 by_cases c2 : (a0.size : Int) > 1048576
 ·rw [if_pos c2] at H; have AI : decide (1048576 < (a0.size : Int)) = true := decide_eq_true c2; have AJ : decide (1048576 < a0.size) = true := decide_eq_true (by omega); clear c2; obtain rfl := Option.some.inj H; go_enter Tryd.func7, Tryd.ntmps7
  go_wp2
  go_ret
  exact ⟨zE, zB⟩
 ·rw [if_neg c2] at H; have AI : decide (1048576 < (a0.size : Int)) = false := decide_eq_false c2; have AJ : decide (1048576 < a0.size) = false := decide_eq_false (by omega); clear c2; replace H := Option.bind_eq_some_iff.mp H; obtain ⟨⟨AC, AA⟩, AG, H⟩ := H; (try dsimp only at H); have A3 := zm AG; clear AG; replace H := Option.bind_eq_some_iff.mp H; obtain ⟨⟨AD, AB⟩, AH, H⟩ := H; (try dsimp only at H); have A4 := zm AH; clear AH
  by_cases c5 : AD = AC
  ·rw [if_pos c5] at H; have AK : (AD == AC) = true := beq_iff_eq.mpr c5; have AL : (AD != AC) = false := bne_eq_false_iff_eq.mpr c5; clear c5
   by_cases c6 : (AB != AA) = true
   ·rw [if_pos c6] at H; have AM : (AB != AA) = true := c6
    (try (have AN : decide (AB = AA) = false := by simpa using c6))
    (try (have AO : (AB == AA) = false := by simpa using c6))
    (try (have AP : ¬ (AB = AA) := by simpa using c6))
    clear c6; rw [HRT.out] at H; cases H
   ·rw [if_neg c6] at H
    have AM : (AB != AA) = false := by simpa using c6
    (try (have AN : decide (AB = AA) = true := by simpa using c6))
    (try (have AO : (AB == AA) = true := by simpa using c6))
    clear c6; obtain rfl := Option.some.inj H; go_enter Tryd.func7, Tryd.ntmps7
    go_wp2_with (first | ((with_reducible refine gate_callee (f := 26) rfl ?_); refine zg (some 12) #[.string a0] Tryd.func26 ?_; (with_reducible refine (spec_Number.calls k a0 AC AA _ A3.out).mono ?_); rintro e w7 ⟨rfl, hb⟩; refine ⟨_, rfl, ?_⟩; replace HB := zm (below_step zB hb); clear hb) | ((with_reducible refine gate_callee (f := 27) rfl ?_); refine zg (some 17) #[.string a0] Tryd.func27 ?_; (with_reducible refine (impl_Number.calls a0 AD AB _ zTN A4.out).mono ?_); rintro e w8 ⟨rfl, hb⟩; refine ⟨_, rfl, ?_⟩; replace HB := zm (below_step zB hb); clear hb))
    go_ret
    exact ⟨zE, zB⟩
  ·rw [if_neg c5] at H; have AK : (AD == AC) = false := beq_eq_false_iff_ne.mpr c5; have AL : (AD != AC) = true := bne_iff_ne.mpr c5; rw [HRT.out] at H; cases H

def laws_FnExactNumber.Pure : Prop := ∀ (a0 : ByteArray), a0.size ≤ 140737488351232 → ∃ k, laws_FnExactNumber.f k a0 = some true

end Go.Proofs.YtomlglpmljngfaaDoor.P
