-- by a program of this session, for this seat
import Derived.Test.YtnmofppbijmhoaaZ
import Derived.Test.YtnmofppbijmhoaaP0
import Derived.Test.YtnmofppbijmhoaaPav
namespace Go.Proofs.Ytnmofppbijmhoaa.P
open Go.RowKit Go.Proofs.YtnmofppbijmhoaaW.PrintWords Go.Proofs.YtnmofppbijmhoaaW.PrintLast Go.Proofs.YtnmofppbijmhoaaW.PrintMore Go.Proofs.Ytnmofppbijmhoaa.Z
attribute [local go_sem] max2_int min2_int max_two min_two max_three min_three max_four min_four   -- for this text's walks alone
set_option linter.unusedVariables false
set_option linter.unusedSimpArgs false

/-! ### spec_DrawLookup: function 34 -/
def spec_DrawLookup.f (k : Nat) (l0 : List Int) : Option ((List (S44)) × (List (S58)) × Int) := (spec_DrawEntryOf.f k l0).bind fun bt685 => (some (bt685.1, bt685.2.1, bt685.2.2))
theorem spec_DrawLookup.mono : ∀ a0 k, LeO (spec_DrawLookup.f k a0) (spec_DrawLookup.f (k + 1) a0) := by
 intro a0 k
 unfold spec_DrawLookup.f
 repeat' first | (with_reducible first | exact LeO.refl _ | exact LeO.none _ | refine LeO.ite ?_ ?_ | refine LeO.bind ?_ (fun _ => ?_) | apply spec_DrawEntryOf.mono) | apply spec_DrawEntryOf.mono | exact LeO.none _ | refine LeO.ite ?_ ?_ | refine LeO.bind ?_ (fun _ => ?_)
set_option maxHeartbeats 8000000 in
set_option maxRecDepth 100000 in
theorem spec_DrawLookup.calls (k : Nat) (A0 : Option Addr) (c0 : Nat) (l0 : List Int) (r1 : List (S44)) (r2 : List (S58)) (r3 : Int) (w : World) (hr0 : Kd.C (Kd.int .u8) w A0 l0.length l0) (hc0 : l0.length ≤ c0) (h : spec_DrawLookup.f k l0 = some (r1, r2, r3)) :
  Calls Try.prog 34 #[.slice A0 l0.length c0] w fun e w' => ∃ v0_ v1_ : Value, e = .returned (.tuple #[.agg #[v0_, v1_], .int .i64 r3]) ∧ Kd.R k44 44 w' w.heap.size (fun _ => True) v0_ r1 ∧ Kd.R k58 58 w' w.heap.size (fun _ => True) v1_ r2 ∧ Below w.heap.size w w' := by
 have hu27 := Try.underlying27; have HR0 := zm hr0; have AL := zm hc0; clear hr0 hc0; have HB := zm (Below.refl w.heap.size w); have H : ((spec_DrawEntryOf.f k l0).bind fun AB => (some (AB.1, AB.2.1, AB.2.2))) = some (r1, r2, r3) := h; clear h; replace H := Option.bind_eq_some_iff.mp H; obtain ⟨⟨AE, AF, AI⟩, AH, H⟩ := H; (try dsimp only at H); have A2 := zm AH; clear AH; simp only [Option.some.injEq, Prod.mk.injEq] at H; obtain ⟨rfl, rfl, rfl⟩ := H; go_enter Try.func34, Try.ntmps34
 go_wp2_with (first | ((with_reducible refine gate_dst (N := 2) rfl ?_); refine zbox 2 #[.slice none 0 0, .slice none 0 0] 27 ?_; intro AG hg w3 hbox hb; have AA := zm (hbox); have AT := zge w hg zB; have AS := zge w hg zB; replace HB := zm (below_step zB hb); clear hb hbox hg) | ((with_reducible refine gate_callee (f := 55) rfl ?_); refine zg (some 5) #[.slice A0 l0.length c0] Try.func55 ?_; (with_reducible refine (spec_DrawEntryOf.calls k _ _ l0 AE AF AI _ (zk (Kd.C_below HR0.out HB.out)) AL.out A2.out).mono ?_); rintro e w4 ⟨v686, v689, rfl, ho0, ho1, hb⟩; refine ⟨_, rfl, ?_⟩; have AC := zm (Kd.R_lower ho0 (below_size zB)); have AD := zm (Kd.R_lower ho1 (below_size zB)); replace AA := zy AA hb; replace HB := zm (below_step zB hb); clear hb ho0 ho1; obtain ⟨AJ, AM, eo5⟩ := Kd.R_slice AC.out; subst eo5; obtain ⟨AO, AP, AQ, AR⟩ := zc2 AA; obtain ⟨AK, AN, eo7⟩ := Kd.R_slice AD.out; subst eo7))
 refine bodyPost_ret (results_ct rfl _ _ AG 27 #[.slice AJ AE.length AM, .slice AK AF.length AN] (0, 0) _ rfl (zput (zput (zb AA) 0) 1) Try.underlying27 rfl (by kernel_rfl)) rfl ?_
 exact ⟨_, _, zE, zrs <| Kd.R_mono (zfr (zfr (Kd.R_types AC.out AA.out (by decide)))) (fun _ hk => trivial), zrs <| Kd.R_mono (zfr (zfr (Kd.R_types AD.out AA.out (by decide)))) (fun _ hk => trivial), zB⟩

end Go.Proofs.Ytnmofppbijmhoaa.P
