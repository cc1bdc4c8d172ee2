-- by a program of this session, for this seat
import Derived.Test.YtgjglbjdkikajaaZ
import Derived.Test.YtgjglbjdkikajaaP0
import Derived.Test.YtgjglbjdkikajaaPab
namespace Go.Proofs.Ytgjglbjdkikajaa.P
open Go.RowKit Go.Proofs.YtgjglbjdkikajaaW.PrintWords Go.Proofs.YtgjglbjdkikajaaW.PrintLast Go.Proofs.YtgjglbjdkikajaaW.PrintMore Go.Proofs.Ytgjglbjdkikajaa.Z
attribute [local go_sem] max2_int min2_int max_two min_two max_three min_three max_four min_four   -- for this text's walks alone
set_option linter.unusedVariables false
set_option linter.unusedSimpArgs false

/-! ### spec_l1Once: function 63 -/
def spec_l1Once.f (s0_0 : List Int) (s0_1 : Int) (s0_2 : Int) (a1 : Int) : Option (Bool × Int × Int) := (spec_l1Below.f s0_0 s0_1 s0_2 a1).bind fun bt229 => (some ((bt229.1 == 0), bt229.2.1, bt229.2.2))
set_option maxHeartbeats 8000000 in
set_option maxRecDepth 100000 in
theorem spec_l1Once.calls (g : Nat) (s0_0 : List Int) (s0_1 : Int) (s0_2 : Int) (a1 : Int) (r1 : Bool) (r2 : Int) (r3 : Int) (w0 w : World) (hI : IsS82 w0 w g s0_0 s0_1 s0_2) (hB : Below w0.heap.size w0 w) (h : spec_l1Once.f s0_0 s0_1 s0_2 a1 = some (r1, r2, r3)) :
  Calls Try.prog 63 #[.pointer (some ⟨g, 0, none⟩), .int .i64 a1] w fun e w' => e = .returned (.bool r1) ∧ IsS82 w0 w' g s0_0 r2 r3 ∧ Below w0.heap.size w0 w' ∧ KeepBut w w' g none := by
 have AA := zm hI; have HK := zm (KeepBut.refl w g none); have HL := zm hB.size; clear hI; have HW0 := zm hB.size; have HB := zm hB; clear hB; have H : ((spec_l1Below.f s0_0 s0_1 s0_2 a1).bind fun AB => (some ((AB.1 == 0), AB.2.1, AB.2.2))) = some (r1, r2, r3) := h; clear h; replace H := Option.bind_eq_some_iff.mp H; obtain ⟨⟨AD, AE, AF⟩, AC, H⟩ := H; (try dsimp only at H); have A3 := zm AC; clear AC; simp only [Option.some.injEq, Prod.mk.injEq] at H; obtain ⟨rfl, rfl, rfl⟩ := H; go_enter Try.func63, Try.ntmps63
 go_wp2_with (first | ((with_reducible refine gate_callee (f := 54) rfl ?_); refine zg (some 7) #[.pointer (some ⟨g, 0, none⟩), .int .i64 a1] Try.func54 ?_; (with_reducible refine (spec_l1Below.calls g s0_0 s0_1 s0_2 a1 AD AE AF w0 _ ?side1 ?side2 A3.out).mono ?_); (case side1 => repeat (first | (with_reducible first | exact AA.out | apply IsS82.alloc | apply IsS82.drewN | apply IsS82.drew | apply IsS82.set_1 | apply IsS82.set_2) | exact AA.out)); (case side2 => repeat (first | (with_reducible first | exact HB.out | apply below_alloc | apply pw_below_drewN | apply below_drew1 | refine below_set ?_ (IsS82.ge AA.out)) | exact HB.out)); rintro e w4 ⟨rfl, hi, hb, hk⟩; refine ⟨_, rfl, ?_⟩; replace HK := zm (KeepBut.trans (by repeat (first | (with_reducible first | exact HK.out | apply KeepBut.set_ | apply keep_drewN | apply keep_drew | apply keep_alloc) | exact HK.out)) hk (.inl rfl)); replace HB := zm (hb); replace AA := zm (hi); clear hb hk hi))
 go_ret
 exact ⟨zE, by repeat (first | (with_reducible first | exact AA.out | apply IsS82.alloc | apply IsS82.drewN | apply IsS82.drew | apply IsS82.set_1 | apply IsS82.set_2) | exact AA.out), by repeat (first | (with_reducible first | exact HB.out | apply below_alloc | apply pw_below_drewN | apply below_drew1 | refine below_set ?_ (IsS82.ge AA.out)) | exact HB.out), by repeat (first | (with_reducible first | exact HK.out | apply KeepBut.set_ | apply keep_drewN | apply keep_drew | apply keep_alloc) | exact HK.out)⟩

end Go.Proofs.Ytgjglbjdkikajaa.P
