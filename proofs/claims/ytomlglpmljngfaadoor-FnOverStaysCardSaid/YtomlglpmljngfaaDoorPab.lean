-- by a program of this session, for this seat
import Derived.Test.YtomlglpmljngfaaDoorHandIo
import Derived.Test.YtomlglpmljngfaaDoorZ
import Derived.Test.YtomlglpmljngfaaDoorP0
namespace Go.Proofs.YtomlglpmljngfaaDoor.P
open Go.RowKit Go.Proofs.YtomlglpmljngfaaDoorW.PrintWords Go.Proofs.YtomlglpmljngfaaDoorW.PrintLast Go.Proofs.YtomlglpmljngfaaDoorW.PrintMore Go.Proofs.YtomlglpmljngfaaDoor.Z Go.Proofs.YtomlglpmljngfaaDoor.HandIo
attribute [local go_sem] max2_int min2_int max_two min_two max_three min_three max_four min_four   -- for this text's walks alone
set_option linter.unusedVariables false
set_option linter.unusedSimpArgs false

/-! ### strconv_Itoa: function 37, by hand -/
def strconv_Itoa.f (a0 : Int) : Option (ByteArray) := if -9223372036854775808 ≤ a0 ∧ a0 ≤ 9223372036854775807 then (some (⟨(Lib.itoa a0).toArray⟩ : ByteArray)) else none
theorem strconv_Itoa.calls (a0 : Int) (r : ByteArray) (w : World) (hT : Go.Proofs.YtomlglpmljngfaaDoor.HandIo.TI w) (h : strconv_Itoa.f a0 = some r) :
 Calls Tryd.prog 37 #[.int .i64 a0] w fun e w' => e = .returned (.string r) ∧ Below w.heap.size w w' := by
 by_cases c : -9223372036854775808 ≤ a0 ∧ a0 ≤ 9223372036854775807
 ·rw [strconv_Itoa.f, if_pos c] at h; obtain rfl := Option.some.inj h; exact Go.Proofs.YtomlglpmljngfaaDoor.HandIo.itoa a0 c.1 c.2 w hT
 ·rw [strconv_Itoa.f, if_neg c] at h; cases h

/-! ### impl_Digits: function 11 -/
def impl_Digits.f (a0 : Int) : Option (ByteArray) := (strconv_Itoa.f a0).bind fun t107 => (some t107)
set_option maxHeartbeats 8000000 in
set_option maxRecDepth 100000 in
theorem impl_Digits.calls (a0 : Int) (r : ByteArray) (w : World) (hT : Go.Proofs.YtomlglpmljngfaaDoor.HandIo.TI w) (h : impl_Digits.f a0 = some r) :
  Calls Tryd.prog 11 #[.int .i64 a0] w fun e w' => e = .returned (.string r) ∧ Below w.heap.size w w' := by
 have HT := zm hT; clear hT
 have HB := zm (Below.refl w.heap.size w); have H : ((strconv_Itoa.f a0).bind fun AA => (some AA)) = some r := h; clear h; replace H := Option.bind_eq_some_iff.mp H; obtain ⟨AA, AB, H⟩ := H; (try dsimp only at H); have A2 := zm AB; clear AB; obtain rfl := Option.some.inj H; go_enter Tryd.func11, Tryd.ntmps11
 go_wp2_with (first | ((with_reducible refine gate_callee (f := 37) rfl ?_); refine zg (some 4) #[.int .i64 a0] Tryd.func37 ?_; (with_reducible refine (strconv_Itoa.calls a0 AA _ zT A2.out).mono ?_); rintro e w3 ⟨rfl, hb⟩; refine ⟨_, rfl, ?_⟩; replace HB := zm (below_step zB hb); clear hb))
 go_ret
 exact ⟨zE, zB⟩

end Go.Proofs.YtomlglpmljngfaaDoor.P
