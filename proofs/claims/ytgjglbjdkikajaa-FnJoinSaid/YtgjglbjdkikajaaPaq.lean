-- by a program of this session, for this seat
import Derived.Test.YtgjglbjdkikajaaZ
import Derived.Test.YtgjglbjdkikajaaP0
import Derived.Test.YtgjglbjdkikajaaPan
import Derived.Test.YtgjglbjdkikajaaPap
import Derived.Test.YtgjglbjdkikajaaPag
import Derived.Test.YtgjglbjdkikajaaPah
import Derived.Test.YtgjglbjdkikajaaPaf
namespace Go.Proofs.Ytgjglbjdkikajaa.P
open Go.RowKit Go.Proofs.YtgjglbjdkikajaaW.PrintWords Go.Proofs.YtgjglbjdkikajaaW.PrintLast Go.Proofs.YtgjglbjdkikajaaW.PrintMore Go.Proofs.Ytgjglbjdkikajaa.Z
attribute [local go_sem] max2_int min2_int max_two min_two max_three min_three max_four min_four   -- for this text's walks alone
set_option linter.unusedVariables false
set_option linter.unusedSimpArgs false

/-! ### impl_StateJoin: function 10 -/
def impl_StateJoin.f (k : Nat) (l0_0 : List (S56)) (l0_1 : List (S59)) (l1_0 : List (S56)) (l1_1 : List (S59)) : Option ((List (S56)) × (List (S59)) × Bool) := (impl_StateOk.f k l0_0 l0_1).bind fun t746 => (if t746 = true then ((impl_StateOk.f k l1_0 l1_1).bind fun t747 => (if t747 = true then ((impl_stateJoin.f k l0_0 l0_1 l1_0 l1_1).bind fun bt748 => (some (bt748.1, bt748.2, true))) else (some (([] : List (S56)), ([] : List (S59)), false)))) else (some (([] : List (S56)), ([] : List (S59)), false)))
theorem impl_StateJoin.mono : ∀ a0 a1 a2 a3 k, LeO (impl_StateJoin.f k a0 a1 a2 a3) (impl_StateJoin.f (k + 1) a0 a1 a2 a3) := by
 intro a0 a1 a2 a3 k
 unfold impl_StateJoin.f
 repeat' first | (with_reducible first | exact LeO.refl _ | exact LeO.none _ | refine LeO.ite ?_ ?_ | refine LeO.bind ?_ (fun _ => ?_) | apply impl_StateOk.mono | apply impl_stateJoin.mono) | apply impl_StateOk.mono | apply impl_stateJoin.mono | exact LeO.none _ | refine LeO.ite ?_ ?_ | refine LeO.bind ?_ (fun _ => ?_)
set_option maxHeartbeats 8000000 in
set_option maxRecDepth 100000 in
theorem impl_StateJoin.calls (k : Nat) (A0_0 : Option Addr) (c0_0 : Nat) (l0_0 : List (S56)) (A0_1 : Option Addr) (c0_1 : Nat) (l0_1 : List (S59)) (A1_0 : Option Addr) (c1_0 : Nat) (l1_0 : List (S56)) (A1_1 : Option Addr) (c1_1 : Nat) (l1_1 : List (S59)) (r1 : List (S56)) (r2 : List (S59)) (r3 : Bool) (w : World) (hr0_0 : Kd.C k56 w A0_0 l0_0.length l0_0) (hc0_0 : l0_0.length ≤ c0_0) (hr0_1 : Kd.C k59 w A0_1 l0_1.length l0_1) (hc0_1 : l0_1.length ≤ c0_1) (hr1_0 : Kd.C k56 w A1_0 l1_0.length l1_0) (hc1_0 : l1_0.length ≤ c1_0) (hr1_1 : Kd.C k59 w A1_1 l1_1.length l1_1) (hc1_1 : l1_1.length ≤ c1_1) (h : impl_StateJoin.f k l0_0 l0_1 l1_0 l1_1 = some (r1, r2, r3)) :
  Calls Try.prog 10 #[.agg #[.slice A0_0 l0_0.length c0_0, .slice A0_1 l0_1.length c0_1], .agg #[.slice A1_0 l1_0.length c1_0, .slice A1_1 l1_1.length c1_1]] w fun e w' => ∃ v0_ v1_ : Value, e = .returned (.tuple #[.agg #[v0_, v1_], .bool r3]) ∧ Kd.R k56 56 w' w.heap.size (fun _ => True) v0_ r1 ∧ Kd.R k59 59 w' w.heap.size (fun _ => True) v1_ r2 ∧ Below w.heap.size w w' := by
 have hu27 := Try.underlying27; have HR0_0 := zm hr0_0; have HC0_0 := zm hc0_0; clear hr0_0 hc0_0; have HR0_1 := zm hr0_1; have HC0_1 := zm hc0_1; clear hr0_1 hc0_1; have HR1_0 := zm hr1_0; have HC1_0 := zm hc1_0; clear hr1_0 hc1_0; have HR1_1 := zm hr1_1; have HC1_1 := zm hc1_1; clear hr1_1 hc1_1; have HB := zm (Below.refl w.heap.size w); have H : ((impl_StateOk.f k l0_0 l0_1).bind fun AK => (if AK = true then ((impl_StateOk.f k l1_0 l1_1).bind fun AL => (if AL = true then ((impl_stateJoin.f k l0_0 l0_1 l1_0 l1_1).bind fun AU => (some (AU.1, AU.2, true))) else (some (([] : List (S56)), ([] : List (S59)), false)))) else (some (([] : List (S56)), ([] : List (S59)), false)))) = some (r1, r2, r3) := h; clear h; replace H := Option.bind_eq_some_iff.mp H; obtain ⟨AK, AZ, H⟩ := H; (try dsimp only at H); have A3 := zm AZ; clear AZ
 by_cases c4 : AK = true
 ·subst c4; rw [if_pos rfl] at H; replace H := Option.bind_eq_some_iff.mp H; obtain ⟨AL, Aa, H⟩ := H; (try dsimp only at H); have A5 := zm Aa; clear Aa
  by_cases c6 : AL = true
  ·subst c6; rw [if_pos rfl] at H; replace H := Option.bind_eq_some_iff.mp H; obtain ⟨⟨AX, AY⟩, Ab, H⟩ := H; (try dsimp only at H); have A7 := zm Ab; clear Ab; simp only [Option.some.injEq, Prod.mk.injEq] at H; obtain ⟨rfl, rfl, rfl⟩ := H; go_enter Try.func10, Try.ntmps10
   go_wp2_with (first | ((with_reducible refine gate_dst (N := 2) rfl ?_); refine zbox 2 #[.slice A0_0 l0_0.length c0_0, .slice A0_1 l0_1.length c0_1] 27 ?_; intro AV hg w8 hbox hb; have AA := zm (hbox); have AP := zge w hg zB; have AM := zge w hg zB; replace HB := zm (below_step zB hb); clear hb hbox hg) | ((with_reducible refine gate_dst (N := 3) rfl ?_); refine zbox 3 #[.slice A1_0 l1_0.length c1_0, .slice A1_1 l1_1.length c1_1] 27 ?_; intro AW hg w9 hbox hb; have AB := zm (hbox); have AQ := zge w hg zB; have AN := zge w hg zB; replace HB := zm (below_step zB hb); have AD := zlt hg (zb AA); have AF := zgt hg (zb AA); replace AA := zy AA hb; clear hb hbox hg) | ((with_reducible refine gate_dst (N := 4) rfl ?_); refine zbox 4 #[.slice none 0 0, .slice none 0 0] 27 ?_; intro AJ hg Bi hbox hb; have AC := zm (hbox); have AR := zge w hg zB; have AO := zge w hg zB; replace HB := zm (below_step zB hb); have AE := zlt hg (zb AA); have AH := zgt hg (zb AA); replace AA := zy AA hb; have AG := zlt hg (zb AB); have AI := zgt hg (zb AB); replace AB := zy AB hb; clear hb hbox hg; have BQ := AD.out; have BZ := AF.out; have BR := AE.out; have Ba := AH.out; obtain ⟨Ag, Ah, B0, B2⟩ := zc2 AA) | ((with_reducible refine gate_callee (f := 13) rfl ?_); refine zg (some 7) #[.agg #[.slice A0_0 l0_0.length c0_0, .slice A0_1 l0_1.length c0_1]] Try.func13 ?_; (with_reducible refine (impl_StateOk.calls k _ _ l0_0 _ _ l0_1 true _ (zk (Kd.C_below HR0_0.out HB.out)) HC0_0.out (zk (Kd.C_below HR0_1.out HB.out)) HC0_1.out A3.out).mono ?_); rintro e Bj ⟨rfl, hb⟩; refine ⟨_, rfl, ?_⟩; replace AA := zy AA hb; replace AB := zy AB hb; replace AC := zy AC hb; replace HB := zm (below_step zB hb); clear hb; have BS := AG.out; have Bb := AI.out; obtain ⟨Ai, Aj, B3, B7⟩ := zc2 AB) | (go_at_call 13; (with_reducible refine (impl_StateOk.calls k _ _ l1_0 _ _ l1_1 true _ (zk (Kd.C_below HR1_0.out HB.out)) HC1_0.out (zk (Kd.C_below HR1_1.out HB.out)) HC1_1.out A5.out).mono ?_); rintro e Bk ⟨rfl, hb⟩; replace AA := zy AA hb; replace AB := zy AB hb; replace AC := zy AC hb; replace HB := zm (below_step zB hb); clear hb; obtain ⟨Ak, Al, BA, BB⟩ := zc2 AA; obtain ⟨Am, An, BC, BD⟩ := zc2 AB) | ((with_reducible refine gate_callee (f := 33) rfl ?_); refine zg (some 17) #[.agg #[.slice A0_0 l0_0.length c0_0, .slice A0_1 l0_1.length c0_1], .agg #[.slice A1_0 l1_0.length c1_0, .slice A1_1 l1_1.length c1_1]] Try.func33 ?_; (with_reducible refine (impl_stateJoin.calls k _ _ l0_0 _ _ l0_1 _ _ l1_0 _ _ l1_1 AX AY _ (zk (Kd.C_below HR0_0.out HB.out)) HC0_0.out (zk (Kd.C_below HR0_1.out HB.out)) HC0_1.out (zk (Kd.C_below HR1_0.out HB.out)) HC1_0.out (zk (Kd.C_below HR1_1.out HB.out)) HC1_1.out A7.out).mono ?_); rintro e Bl ⟨v749, v752, rfl, ho0, ho1, hb⟩; refine ⟨_, rfl, ?_⟩; have AS := zm (Kd.R_lower ho0 (below_size zB)); have AT := zm (Kd.R_lower ho1 (below_size zB)); replace AA := zy AA hb; replace AB := zy AB hb; replace AC := zy AC hb; replace HB := zm (below_step zB hb); clear hb ho0 ho1; obtain ⟨Ac, Ae, eo21⟩ := Kd.R_slice AS.out; subst eo21; obtain ⟨Ao, Ap, BE, BF⟩ := zc2 AC; obtain ⟨Ad, Af, eo23⟩ := Kd.R_slice AT.out; subst eo23))
   refine bodyPost_ret (results_ct rfl _ _ AJ 27 #[.slice Ac AX.length Ae, .slice Ad AY.length Af] (0, 0) _ rfl (zput (zput (zb AC) 0) 1) Try.underlying27 rfl (by kernel_rfl)) rfl ?_
   exact ⟨_, _, zE, zrs <| Kd.R_mono (zfr (zfr (Kd.R_types AS.out AC.out (by decide)))) (fun _ hk => trivial), zrs <| Kd.R_mono (zfr (zfr (Kd.R_types AT.out AC.out (by decide)))) (fun _ hk => trivial), zB⟩
  ·replace c6 := Bool.eq_false_iff.mpr c6; subst c6; rw [zff] at H; simp only [Option.some.injEq, Prod.mk.injEq] at H; obtain ⟨rfl, rfl, rfl⟩ := H; go_enter Try.func10, Try.ntmps10
   go_wp2_with (first | ((with_reducible refine gate_dst (N := 2) rfl ?_); refine zbox 2 #[.slice A0_0 l0_0.length c0_0, .slice A0_1 l0_1.length c0_1] 27 ?_; intro AV hg Bm hbox hb; have AA := zm (hbox); have AP := zge w hg zB; have AM := zge w hg zB; replace HB := zm (below_step zB hb); clear hb hbox hg) | ((with_reducible refine gate_dst (N := 3) rfl ?_); refine zbox 3 #[.slice A1_0 l1_0.length c1_0, .slice A1_1 l1_1.length c1_1] 27 ?_; intro AW hg Bn hbox hb; have AB := zm (hbox); have AQ := zge w hg zB; have AN := zge w hg zB; replace HB := zm (below_step zB hb); have AD := zlt hg (zb AA); have AF := zgt hg (zb AA); replace AA := zy AA hb; clear hb hbox hg) | ((with_reducible refine gate_dst (N := 4) rfl ?_); refine zbox 4 #[.slice none 0 0, .slice none 0 0] 27 ?_; intro AJ hg Bo hbox hb; have AC := zm (hbox); have AR := zge w hg zB; have AO := zge w hg zB; replace HB := zm (below_step zB hb); have AE := zlt hg (zb AA); have AH := zgt hg (zb AA); replace AA := zy AA hb; have AG := zlt hg (zb AB); have AI := zgt hg (zb AB); replace AB := zy AB hb; clear hb hbox hg; have BT := AD.out; have Bc := AF.out; have BU := AE.out; have Bd := AH.out; obtain ⟨Aq, Ar, BG, BH⟩ := zc2 AA) | ((with_reducible refine gate_callee (f := 13) rfl ?_); refine zg (some 7) #[.agg #[.slice A0_0 l0_0.length c0_0, .slice A0_1 l0_1.length c0_1]] Try.func13 ?_; (with_reducible refine (impl_StateOk.calls k _ _ l0_0 _ _ l0_1 true _ (zk (Kd.C_below HR0_0.out HB.out)) HC0_0.out (zk (Kd.C_below HR0_1.out HB.out)) HC0_1.out A3.out).mono ?_); rintro e Bp ⟨rfl, hb⟩; refine ⟨_, rfl, ?_⟩; replace AA := zy AA hb; replace AB := zy AB hb; replace AC := zy AC hb; replace HB := zm (below_step zB hb); clear hb; have BV := AG.out; have Be := AI.out; obtain ⟨As, At, BI, BJ⟩ := zc2 AB) | (go_at_call 13; (with_reducible refine (impl_StateOk.calls k _ _ l1_0 _ _ l1_1 false _ (zk (Kd.C_below HR1_0.out HB.out)) HC1_0.out (zk (Kd.C_below HR1_1.out HB.out)) HC1_1.out A5.out).mono ?_); rintro e Bq ⟨rfl, hb⟩; replace AA := zy AA hb; replace AB := zy AB hb; replace AC := zy AC hb; replace HB := zm (below_step zB hb); clear hb; obtain ⟨Au, Av, BK, BL⟩ := zc2 AC))
   refine bodyPost_ret (results_ct rfl _ _ AJ 27 #[.slice none 0 0, .slice none 0 0] (0, 0) _ rfl (zput (zput (zb AC) 0) 1) Try.underlying27 rfl (by kernel_rfl)) rfl ?_
   exact ⟨_, _, zE, znil, znil, zB⟩
 ·replace c4 := Bool.eq_false_iff.mpr c4; subst c4; rw [zff] at H; simp only [Option.some.injEq, Prod.mk.injEq] at H; obtain ⟨rfl, rfl, rfl⟩ := H; go_enter Try.func10, Try.ntmps10
  go_wp2_with (first | ((with_reducible refine gate_dst (N := 2) rfl ?_); refine zbox 2 #[.slice A0_0 l0_0.length c0_0, .slice A0_1 l0_1.length c0_1] 27 ?_; intro AV hg Br hbox hb; have AA := zm (hbox); have AP := zge w hg zB; have AM := zge w hg zB; replace HB := zm (below_step zB hb); clear hb hbox hg) | ((with_reducible refine gate_dst (N := 3) rfl ?_); refine zbox 3 #[.slice A1_0 l1_0.length c1_0, .slice A1_1 l1_1.length c1_1] 27 ?_; intro AW hg Bs hbox hb; have AB := zm (hbox); have AQ := zge w hg zB; have AN := zge w hg zB; replace HB := zm (below_step zB hb); have AD := zlt hg (zb AA); have AF := zgt hg (zb AA); replace AA := zy AA hb; clear hb hbox hg) | ((with_reducible refine gate_dst (N := 4) rfl ?_); refine zbox 4 #[.slice none 0 0, .slice none 0 0] 27 ?_; intro AJ hg Bt hbox hb; have AC := zm (hbox); have AR := zge w hg zB; have AO := zge w hg zB; replace HB := zm (below_step zB hb); have AE := zlt hg (zb AA); have AH := zgt hg (zb AA); replace AA := zy AA hb; have AG := zlt hg (zb AB); have AI := zgt hg (zb AB); replace AB := zy AB hb; clear hb hbox hg; have BW := AD.out; have Bf := AF.out; have BX := AE.out; have Bg := AH.out; obtain ⟨Aw, Ax, BM, BN⟩ := zc2 AA) | ((with_reducible refine gate_callee (f := 13) rfl ?_); refine zg (some 7) #[.agg #[.slice A0_0 l0_0.length c0_0, .slice A0_1 l0_1.length c0_1]] Try.func13 ?_; (with_reducible refine (impl_StateOk.calls k _ _ l0_0 _ _ l0_1 false _ (zk (Kd.C_below HR0_0.out HB.out)) HC0_0.out (zk (Kd.C_below HR0_1.out HB.out)) HC0_1.out A3.out).mono ?_); rintro e Bu ⟨rfl, hb⟩; refine ⟨_, rfl, ?_⟩; replace AA := zy AA hb; replace AB := zy AB hb; replace AC := zy AC hb; replace HB := zm (below_step zB hb); clear hb; have BY := AI.out; have Bh := AG.out; obtain ⟨Ay, Az, BO, BP⟩ := zc2 AC))
  refine bodyPost_ret (results_ct rfl _ _ AJ 27 #[.slice none 0 0, .slice none 0 0] (0, 0) _ rfl (zput (zput (zb AC) 0) 1) Try.underlying27 rfl (by kernel_rfl)) rfl ?_
  exact ⟨_, _, zE, znil, znil, zB⟩

/-! ### spec_StateJoin: function 11 -/
def spec_StateJoin.f (k : Nat) (l0_0 : List (S56)) (l0_1 : List (S59)) (l1_0 : List (S56)) (l1_1 : List (S59)) : Option ((List (S56)) × (List (S59)) × Bool) := (spec_StateOk.f k l0_0 l0_1).bind fun t757 => (if t757 = true then ((spec_StateOk.f k l1_0 l1_1).bind fun t758 => (if t758 = true then ((spec_l3Join.f k l0_0 l0_1 l1_0 l1_1).bind fun bt759 => (some (bt759.1, bt759.2, true))) else (some (([] : List (S56)), ([] : List (S59)), false)))) else (some (([] : List (S56)), ([] : List (S59)), false)))
theorem spec_StateJoin.mono : ∀ a0 a1 a2 a3 k, LeO (spec_StateJoin.f k a0 a1 a2 a3) (spec_StateJoin.f (k + 1) a0 a1 a2 a3) := by
 intro a0 a1 a2 a3 k
 unfold spec_StateJoin.f
 repeat' first | (with_reducible first | exact LeO.refl _ | exact LeO.none _ | refine LeO.ite ?_ ?_ | refine LeO.bind ?_ (fun _ => ?_) | apply spec_StateOk.mono | apply spec_l3Join.mono) | apply spec_StateOk.mono | apply spec_l3Join.mono | exact LeO.none _ | refine LeO.ite ?_ ?_ | refine LeO.bind ?_ (fun _ => ?_)
set_option maxHeartbeats 8000000 in
set_option maxRecDepth 100000 in
theorem spec_StateJoin.calls (k : Nat) (A0_0 : Option Addr) (c0_0 : Nat) (l0_0 : List (S56)) (A0_1 : Option Addr) (c0_1 : Nat) (l0_1 : List (S59)) (A1_0 : Option Addr) (c1_0 : Nat) (l1_0 : List (S56)) (A1_1 : Option Addr) (c1_1 : Nat) (l1_1 : List (S59)) (r1 : List (S56)) (r2 : List (S59)) (r3 : Bool) (w : World) (hr0_0 : Kd.C k56 w A0_0 l0_0.length l0_0) (hc0_0 : l0_0.length ≤ c0_0) (hr0_1 : Kd.C k59 w A0_1 l0_1.length l0_1) (hc0_1 : l0_1.length ≤ c0_1) (hr1_0 : Kd.C k56 w A1_0 l1_0.length l1_0) (hc1_0 : l1_0.length ≤ c1_0) (hr1_1 : Kd.C k59 w A1_1 l1_1.length l1_1) (hc1_1 : l1_1.length ≤ c1_1) (h : spec_StateJoin.f k l0_0 l0_1 l1_0 l1_1 = some (r1, r2, r3)) :
  Calls Try.prog 11 #[.agg #[.slice A0_0 l0_0.length c0_0, .slice A0_1 l0_1.length c0_1], .agg #[.slice A1_0 l1_0.length c1_0, .slice A1_1 l1_1.length c1_1]] w fun e w' => ∃ v0_ v1_ : Value, e = .returned (.tuple #[.agg #[v0_, v1_], .bool r3]) ∧ Kd.R k56 56 w' w.heap.size (fun _ => True) v0_ r1 ∧ Kd.R k59 59 w' w.heap.size (fun _ => True) v1_ r2 ∧ Below w.heap.size w w' := by
 have hu27 := Try.underlying27; have HR0_0 := zm hr0_0; have HC0_0 := zm hc0_0; clear hr0_0 hc0_0; have HR0_1 := zm hr0_1; have HC0_1 := zm hc0_1; clear hr0_1 hc0_1; have HR1_0 := zm hr1_0; have HC1_0 := zm hc1_0; clear hr1_0 hc1_0; have HR1_1 := zm hr1_1; have HC1_1 := zm hc1_1; clear hr1_1 hc1_1; have HB := zm (Below.refl w.heap.size w); have H : ((spec_StateOk.f k l0_0 l0_1).bind fun AK => (if AK = true then ((spec_StateOk.f k l1_0 l1_1).bind fun AL => (if AL = true then ((spec_l3Join.f k l0_0 l0_1 l1_0 l1_1).bind fun AU => (some (AU.1, AU.2, true))) else (some (([] : List (S56)), ([] : List (S59)), false)))) else (some (([] : List (S56)), ([] : List (S59)), false)))) = some (r1, r2, r3) := h; clear h; replace H := Option.bind_eq_some_iff.mp H; obtain ⟨AK, AZ, H⟩ := H; (try dsimp only at H); have A3 := zm AZ; clear AZ
 by_cases c4 : AK = true
 ·subst c4; rw [if_pos rfl] at H; replace H := Option.bind_eq_some_iff.mp H; obtain ⟨AL, Aa, H⟩ := H; (try dsimp only at H); have A5 := zm Aa; clear Aa
  by_cases c6 : AL = true
  ·subst c6; rw [if_pos rfl] at H; replace H := Option.bind_eq_some_iff.mp H; obtain ⟨⟨AX, AY⟩, Ab, H⟩ := H; (try dsimp only at H); have A7 := zm Ab; clear Ab; simp only [Option.some.injEq, Prod.mk.injEq] at H; obtain ⟨rfl, rfl, rfl⟩ := H; go_enter Try.func11, Try.ntmps11
   go_wp2_with (first | ((with_reducible refine gate_dst (N := 2) rfl ?_); refine zbox 2 #[.slice A0_0 l0_0.length c0_0, .slice A0_1 l0_1.length c0_1] 27 ?_; intro AV hg w8 hbox hb; have AA := zm (hbox); have AP := zge w hg zB; have AM := zge w hg zB; replace HB := zm (below_step zB hb); clear hb hbox hg) | ((with_reducible refine gate_dst (N := 3) rfl ?_); refine zbox 3 #[.slice A1_0 l1_0.length c1_0, .slice A1_1 l1_1.length c1_1] 27 ?_; intro AW hg w9 hbox hb; have AB := zm (hbox); have AQ := zge w hg zB; have AN := zge w hg zB; replace HB := zm (below_step zB hb); have AD := zlt hg (zb AA); have AF := zgt hg (zb AA); replace AA := zy AA hb; clear hb hbox hg) | ((with_reducible refine gate_dst (N := 4) rfl ?_); refine zbox 4 #[.slice none 0 0, .slice none 0 0] 27 ?_; intro AJ hg Bi hbox hb; have AC := zm (hbox); have AR := zge w hg zB; have AO := zge w hg zB; replace HB := zm (below_step zB hb); have AE := zlt hg (zb AA); have AH := zgt hg (zb AA); replace AA := zy AA hb; have AG := zlt hg (zb AB); have AI := zgt hg (zb AB); replace AB := zy AB hb; clear hb hbox hg; have BQ := AD.out; have BZ := AF.out; have BR := AE.out; have Ba := AH.out; obtain ⟨Ag, Ah, B0, B2⟩ := zc2 AA) | ((with_reducible refine gate_callee (f := 34) rfl ?_); refine zg (some 7) #[.agg #[.slice A0_0 l0_0.length c0_0, .slice A0_1 l0_1.length c0_1]] Try.func34 ?_; (with_reducible refine (spec_StateOk.calls k _ _ l0_0 _ _ l0_1 true _ (zk (Kd.C_below HR0_0.out HB.out)) HC0_0.out (zk (Kd.C_below HR0_1.out HB.out)) HC0_1.out A3.out).mono ?_); rintro e Bj ⟨rfl, hb⟩; refine ⟨_, rfl, ?_⟩; replace AA := zy AA hb; replace AB := zy AB hb; replace AC := zy AC hb; replace HB := zm (below_step zB hb); clear hb; have BS := AG.out; have Bb := AI.out; obtain ⟨Ai, Aj, B3, B7⟩ := zc2 AB) | (go_at_call 34; (with_reducible refine (spec_StateOk.calls k _ _ l1_0 _ _ l1_1 true _ (zk (Kd.C_below HR1_0.out HB.out)) HC1_0.out (zk (Kd.C_below HR1_1.out HB.out)) HC1_1.out A5.out).mono ?_); rintro e Bk ⟨rfl, hb⟩; replace AA := zy AA hb; replace AB := zy AB hb; replace AC := zy AC hb; replace HB := zm (below_step zB hb); clear hb; obtain ⟨Ak, Al, BA, BB⟩ := zc2 AA; obtain ⟨Am, An, BC, BD⟩ := zc2 AB) | ((with_reducible refine gate_callee (f := 35) rfl ?_); refine zg (some 17) #[.agg #[.slice A0_0 l0_0.length c0_0, .slice A0_1 l0_1.length c0_1], .agg #[.slice A1_0 l1_0.length c1_0, .slice A1_1 l1_1.length c1_1]] Try.func35 ?_; (with_reducible refine (spec_l3Join.calls k _ _ l0_0 _ _ l0_1 _ _ l1_0 _ _ l1_1 AX AY _ (zk (Kd.C_below HR0_0.out HB.out)) HC0_0.out (zk (Kd.C_below HR0_1.out HB.out)) HC0_1.out (zk (Kd.C_below HR1_0.out HB.out)) HC1_0.out (zk (Kd.C_below HR1_1.out HB.out)) HC1_1.out A7.out).mono ?_); rintro e Bl ⟨v760, v763, rfl, ho0, ho1, hb⟩; refine ⟨_, rfl, ?_⟩; have AS := zm (Kd.R_lower ho0 (below_size zB)); have AT := zm (Kd.R_lower ho1 (below_size zB)); replace AA := zy AA hb; replace AB := zy AB hb; replace AC := zy AC hb; replace HB := zm (below_step zB hb); clear hb ho0 ho1; obtain ⟨Ac, Ae, eo21⟩ := Kd.R_slice AS.out; subst eo21; obtain ⟨Ao, Ap, BE, BF⟩ := zc2 AC; obtain ⟨Ad, Af, eo23⟩ := Kd.R_slice AT.out; subst eo23))
   refine bodyPost_ret (results_ct rfl _ _ AJ 27 #[.slice Ac AX.length Ae, .slice Ad AY.length Af] (0, 0) _ rfl (zput (zput (zb AC) 0) 1) Try.underlying27 rfl (by kernel_rfl)) rfl ?_
   exact ⟨_, _, zE, zrs <| Kd.R_mono (zfr (zfr (Kd.R_types AS.out AC.out (by decide)))) (fun _ hk => trivial), zrs <| Kd.R_mono (zfr (zfr (Kd.R_types AT.out AC.out (by decide)))) (fun _ hk => trivial), zB⟩
  ·replace c6 := Bool.eq_false_iff.mpr c6; subst c6; rw [zff] at H; simp only [Option.some.injEq, Prod.mk.injEq] at H; obtain ⟨rfl, rfl, rfl⟩ := H; go_enter Try.func11, Try.ntmps11
   go_wp2_with (first | ((with_reducible refine gate_dst (N := 2) rfl ?_); refine zbox 2 #[.slice A0_0 l0_0.length c0_0, .slice A0_1 l0_1.length c0_1] 27 ?_; intro AV hg Bm hbox hb; have AA := zm (hbox); have AP := zge w hg zB; have AM := zge w hg zB; replace HB := zm (below_step zB hb); clear hb hbox hg) | ((with_reducible refine gate_dst (N := 3) rfl ?_); refine zbox 3 #[.slice A1_0 l1_0.length c1_0, .slice A1_1 l1_1.length c1_1] 27 ?_; intro AW hg Bn hbox hb; have AB := zm (hbox); have AQ := zge w hg zB; have AN := zge w hg zB; replace HB := zm (below_step zB hb); have AD := zlt hg (zb AA); have AF := zgt hg (zb AA); replace AA := zy AA hb; clear hb hbox hg) | ((with_reducible refine gate_dst (N := 4) rfl ?_); refine zbox 4 #[.slice none 0 0, .slice none 0 0] 27 ?_; intro AJ hg Bo hbox hb; have AC := zm (hbox); have AR := zge w hg zB; have AO := zge w hg zB; replace HB := zm (below_step zB hb); have AE := zlt hg (zb AA); have AH := zgt hg (zb AA); replace AA := zy AA hb; have AG := zlt hg (zb AB); have AI := zgt hg (zb AB); replace AB := zy AB hb; clear hb hbox hg; have BT := AD.out; have Bc := AF.out; have BU := AE.out; have Bd := AH.out; obtain ⟨Aq, Ar, BG, BH⟩ := zc2 AA) | ((with_reducible refine gate_callee (f := 34) rfl ?_); refine zg (some 7) #[.agg #[.slice A0_0 l0_0.length c0_0, .slice A0_1 l0_1.length c0_1]] Try.func34 ?_; (with_reducible refine (spec_StateOk.calls k _ _ l0_0 _ _ l0_1 true _ (zk (Kd.C_below HR0_0.out HB.out)) HC0_0.out (zk (Kd.C_below HR0_1.out HB.out)) HC0_1.out A3.out).mono ?_); rintro e Bp ⟨rfl, hb⟩; refine ⟨_, rfl, ?_⟩; replace AA := zy AA hb; replace AB := zy AB hb; replace AC := zy AC hb; replace HB := zm (below_step zB hb); clear hb; have BV := AG.out; have Be := AI.out; obtain ⟨As, At, BI, BJ⟩ := zc2 AB) | (go_at_call 34; (with_reducible refine (spec_StateOk.calls k _ _ l1_0 _ _ l1_1 false _ (zk (Kd.C_below HR1_0.out HB.out)) HC1_0.out (zk (Kd.C_below HR1_1.out HB.out)) HC1_1.out A5.out).mono ?_); rintro e Bq ⟨rfl, hb⟩; replace AA := zy AA hb; replace AB := zy AB hb; replace AC := zy AC hb; replace HB := zm (below_step zB hb); clear hb; obtain ⟨Au, Av, BK, BL⟩ := zc2 AC))
   refine bodyPost_ret (results_ct rfl _ _ AJ 27 #[.slice none 0 0, .slice none 0 0] (0, 0) _ rfl (zput (zput (zb AC) 0) 1) Try.underlying27 rfl (by kernel_rfl)) rfl ?_
   exact ⟨_, _, zE, znil, znil, zB⟩
 ·replace c4 := Bool.eq_false_iff.mpr c4; subst c4; rw [zff] at H; simp only [Option.some.injEq, Prod.mk.injEq] at H; obtain ⟨rfl, rfl, rfl⟩ := H; go_enter Try.func11, Try.ntmps11
  go_wp2_with (first | ((with_reducible refine gate_dst (N := 2) rfl ?_); refine zbox 2 #[.slice A0_0 l0_0.length c0_0, .slice A0_1 l0_1.length c0_1] 27 ?_; intro AV hg Br hbox hb; have AA := zm (hbox); have AP := zge w hg zB; have AM := zge w hg zB; replace HB := zm (below_step zB hb); clear hb hbox hg) | ((with_reducible refine gate_dst (N := 3) rfl ?_); refine zbox 3 #[.slice A1_0 l1_0.length c1_0, .slice A1_1 l1_1.length c1_1] 27 ?_; intro AW hg Bs hbox hb; have AB := zm (hbox); have AQ := zge w hg zB; have AN := zge w hg zB; replace HB := zm (below_step zB hb); have AD := zlt hg (zb AA); have AF := zgt hg (zb AA); replace AA := zy AA hb; clear hb hbox hg) | ((with_reducible refine gate_dst (N := 4) rfl ?_); refine zbox 4 #[.slice none 0 0, .slice none 0 0] 27 ?_; intro AJ hg Bt hbox hb; have AC := zm (hbox); have AR := zge w hg zB; have AO := zge w hg zB; replace HB := zm (below_step zB hb); have AE := zlt hg (zb AA); have AH := zgt hg (zb AA); replace AA := zy AA hb; have AG := zlt hg (zb AB); have AI := zgt hg (zb AB); replace AB := zy AB hb; clear hb hbox hg; have BW := AD.out; have Bf := AF.out; have BX := AE.out; have Bg := AH.out; obtain ⟨Aw, Ax, BM, BN⟩ := zc2 AA) | ((with_reducible refine gate_callee (f := 34) rfl ?_); refine zg (some 7) #[.agg #[.slice A0_0 l0_0.length c0_0, .slice A0_1 l0_1.length c0_1]] Try.func34 ?_; (with_reducible refine (spec_StateOk.calls k _ _ l0_0 _ _ l0_1 false _ (zk (Kd.C_below HR0_0.out HB.out)) HC0_0.out (zk (Kd.C_below HR0_1.out HB.out)) HC0_1.out A3.out).mono ?_); rintro e Bu ⟨rfl, hb⟩; refine ⟨_, rfl, ?_⟩; replace AA := zy AA hb; replace AB := zy AB hb; replace AC := zy AC hb; replace HB := zm (below_step zB hb); clear hb; have BY := AI.out; have Bh := AG.out; obtain ⟨Ay, Az, BO, BP⟩ := zc2 AC))
  refine bodyPost_ret (results_ct rfl _ _ AJ 27 #[.slice none 0 0, .slice none 0 0] (0, 0) _ rfl (zput (zput (zb AC) 0) 1) Try.underlying27 rfl (by kernel_rfl)) rfl ?_
  exact ⟨_, _, zE, znil, znil, zB⟩

section
attribute [local go_sem high] eqA56
/-! ### impl_Item: function 36 -/
def impl_Item.l0 : Nat → List (S56) → List (S56) → Int → Int → Option (Bool)
 | 0, _, _, _, _ => none
 | k + 1, x0, x1, x12, x13 => if x13 < x12 then (if 0 ≤ x13 then (if x13 < (x0.length : Int) then (if x13 < (x1.length : Int) then (if (!(((rd_T56 x0 x13).f0) == ((rd_T56 x1 x13).f0)) || ((!(((rd_T56 x0 x13).f1.f0) == ((rd_T56 x1 x13).f1.f0)) || (!(((rd_T56 x0 x13).f1.f1) == ((rd_T56 x1 x13).f1.f1)) || (!(((rd_T56 x0 x13).f1.f2) == ((rd_T56 x1 x13).f1.f2)) || (!(((rd_T56 x0 x13).f1.f3) == ((rd_T56 x1 x13).f1.f3)) || (!((((rd_T56 x0 x13).f1.f4).toList) == (((rd_T56 x1 x13).f1.f4).toList))))))))) = true then (some false) else (impl_Item.l0 k x0 x1 x12 (wrap64 (x13 + 1)))) else (none)) else (none)) else (none)) else (some true)
def impl_Item.f (k : Nat) (l0 : List (S56)) (l1 : List (S56)) : Option (Bool) := if (l0.length : Int) = (l1.length : Int) then (impl_Item.l0 k l0 l1 (l0.length : Int) 0) else (some false)
theorem impl_Item.mono_l : ∀ k, (∀ y0 y1 y2 y3, LeO (impl_Item.l0 k y0 y1 y2 y3) (impl_Item.l0 (k + 1) y0 y1 y2 y3))
 | 0 => fun _ _ _ _ r h => by simp [impl_Item.l0] at h
 | k + 1 => by
  have ih0 := impl_Item.mono_l k
  ·intro y0 y1 y2 y3
   unfold impl_Item.l0
   repeat' first | (with_reducible first | exact LeO.refl _ | exact LeO.none _ | refine LeO.ite ?_ ?_ | refine LeO.bind ?_ (fun _ => ?_) | apply ih0) | apply ih0 | exact LeO.none _ | refine LeO.ite ?_ ?_ | refine LeO.bind ?_ (fun _ => ?_)
theorem impl_Item.mono : ∀ a0 a1 k, LeO (impl_Item.f k a0 a1) (impl_Item.f (k + 1) a0 a1) := by
 intro a0 a1 k; have ih0 := impl_Item.mono_l k
 unfold impl_Item.f
 repeat' first | (with_reducible first | exact LeO.refl _ | exact LeO.none _ | refine LeO.ite ?_ ?_ | refine LeO.bind ?_ (fun _ => ?_) | apply ih0) | apply ih0 | exact LeO.none _ | refine LeO.ite ?_ ?_ | refine LeO.bind ?_ (fun _ => ?_)
set_option maxHeartbeats 8000000 in
set_option maxRecDepth 100000 in
theorem impl_Item.calls (k : Nat) (A0 : Option Addr) (c0 : Nat) (l0 : List (S56)) (A1 : Option Addr) (c1 : Nat) (l1 : List (S56)) (r : Bool) (w : World) (hr0 : Kd.C k56 w A0 l0.length l0) (hc0 : l0.length ≤ c0) (hr1 : Kd.C k56 w A1 l1.length l1) (hc1 : l1.length ≤ c1) (h : impl_Item.f k l0 l1 = some r) :
  Calls Try.prog 36 #[.slice A0 l0.length c0, .slice A1 l1.length c1] w fun e w' => e = .returned (.bool r) ∧ Drawn0 w w' := by
 have hu56 := Try.underlying56; have HR0 := zm hr0; have AK := zm hc0; clear hr0 hc0; have HR1 := zm hr1; have AL := zm hc1; clear hr1 hc1; have H : (if (l0.length : Int) = (l1.length : Int) then (impl_Item.l0 k l0 l1 (l0.length : Int) 0) else (some false)) = some r := h; clear h
 by_cases c3 : (l0.length : Int) = (l1.length : Int)
 ·rw [if_pos c3] at H; have AB : ((l0.length : Int) == (l1.length : Int)) = true := beq_iff_eq.mpr c3; have AC : ((l0.length : Int) != (l1.length : Int)) = false := bne_eq_false_iff_eq.mpr c3
  have AD : (l0.length == l1.length) = true := by first | simpa using c3 | (simp at c3 ⊢; omega)
  clear c3
  have H' := zm H
  clear H; go_enter Try.func36, Try.ntmps36
  go_wp2
  repeat (go_quiet (fail); try go_wp2)
  go_loopg [13] k (fun kq v13 w' => ∃ (AA : Int), v13 = .int .i64 AA ∧ Aside0 (impl_Item.l0 kq l0 l1 (l0.length : Int) AA = some r) ∧ Aside0 (kq ≤ k) ∧ Drawn0 w w')
  case atStart => exact ⟨(0), zF, H', ⟨Nat.le_refl _⟩, zD⟩
  case round =>
   clear H'; (try clear c1); (try clear c3); (try clear AB); (try clear AC); (try clear AD); obtain ⟨AA, rfl, HA, AE, ⟨m1, rfl⟩⟩ := hrel
   cases gk with
   | zero => exact absurd HA.out (by simp [impl_Item.l0])
   | succ k1 =>
    have H := HA.out; clear HA; simp only [impl_Item.l0] at H
    by_cases c4 : AA < (l0.length : Int)
    ·rw [if_pos c4] at H; have AF : decide (AA < (l0.length : Int)) = true := decide_eq_true c4; clear c4
     by_cases c5 : 0 ≤ AA
     ·rw [if_pos c5] at H; have AH : decide (0 ≤ AA) = true := decide_eq_true c5; clear c5
      by_cases c6 : AA < (l0.length : Int)
      ·rw [if_pos c6] at H; have AI : decide (AA < (l0.length : Int)) = true := decide_eq_true c6; clear c6
       by_cases c7 : AA < (l1.length : Int)
       ·rw [if_pos c7] at H; have AJ : decide (AA < (l1.length : Int)) = true := decide_eq_true c7; clear c7
        by_cases c8 : (!(((rd_T56 l0 AA).f0) == ((rd_T56 l1 AA).f0)) || ((!(((rd_T56 l0 AA).f1.f0) == ((rd_T56 l1 AA).f1.f0)) || (!(((rd_T56 l0 AA).f1.f1) == ((rd_T56 l1 AA).f1.f1)) || (!(((rd_T56 l0 AA).f1.f2) == ((rd_T56 l1 AA).f1.f2)) || (!(((rd_T56 l0 AA).f1.f3) == ((rd_T56 l1 AA).f1.f3)) || (!((((rd_T56 l0 AA).f1.f4).toList) == (((rd_T56 l1 AA).f1.f4).toList))))))))) = true
        ·rw [if_pos c8] at H; have AG : (!(((rd_T56 l0 AA).f0) == ((rd_T56 l1 AA).f0)) || ((!(((rd_T56 l0 AA).f1.f0) == ((rd_T56 l1 AA).f1.f0)) || (!(((rd_T56 l0 AA).f1.f1) == ((rd_T56 l1 AA).f1.f1)) || (!(((rd_T56 l0 AA).f1.f2) == ((rd_T56 l1 AA).f1.f2)) || (!(((rd_T56 l0 AA).f1.f3) == ((rd_T56 l1 AA).f1.f3)) || (!((((rd_T56 l0 AA).f1.f4).toList) == (((rd_T56 l1 AA).f1.f4).toList))))))))) = true := c8; clear c8; obtain rfl := Option.some.inj H; have p765 : 0 ≤ (AA : Int) := zd; have q765 : AA < (l0.length : Int) := zd; obtain ⟨ad765, e765, hx765_0, hx765_1, hx765_2, hx765_3, hx765_4, hx765_5⟩ := at_T56 HR0.out AA p765 q765; cases e765; replace p765 := eq_true p765; replace q765 := eq_true q765; have p766 : 0 ≤ (AA : Int) := zd; have q766 : AA < (l1.length : Int) := zd; obtain ⟨ad766, e766, hx766_0, hx766_1, hx766_2, hx766_3, hx766_4, hx766_5⟩ := at_T56 HR1.out AA p766 q766; cases e766; replace p766 := eq_true p766; replace q766 := eq_true q766
         go_wp2
         repeat (go_quiet (fail); try go_wp2)
         go_ret
         exact ⟨zF, zD⟩
        ·rw [if_neg c8] at H
         have AG : (!(((rd_T56 l0 AA).f0) == ((rd_T56 l1 AA).f0)) || ((!(((rd_T56 l0 AA).f1.f0) == ((rd_T56 l1 AA).f1.f0)) || (!(((rd_T56 l0 AA).f1.f1) == ((rd_T56 l1 AA).f1.f1)) || (!(((rd_T56 l0 AA).f1.f2) == ((rd_T56 l1 AA).f1.f2)) || (!(((rd_T56 l0 AA).f1.f3) == ((rd_T56 l1 AA).f1.f3)) || (!((((rd_T56 l0 AA).f1.f4).toList) == (((rd_T56 l1 AA).f1.f4).toList))))))))) = false := by simpa using c8
         clear c8
         have H' := zm H
         clear H; have p765 : 0 ≤ (AA : Int) := zd; have q765 : AA < (l0.length : Int) := zd; obtain ⟨ad765, e765, hx765_0, hx765_1, hx765_2, hx765_3, hx765_4, hx765_5⟩ := at_T56 HR0.out AA p765 q765; cases e765; replace p765 := eq_true p765; replace q765 := eq_true q765; have p766 : 0 ≤ (AA : Int) := zd; have q766 : AA < (l1.length : Int) := zd; obtain ⟨ad766, e766, hx766_0, hx766_1, hx766_2, hx766_3, hx766_4, hx766_5⟩ := at_T56 HR1.out AA p766 q766; cases e766; replace p766 := eq_true p766; replace q766 := eq_true q766
         go_wp2
         repeat (go_quiet (fail); try go_wp2)
         go_roundg k1
         case measure => have := AE.out; omega
         case rel => exact ⟨(wrap64 (AA + 1)), zF, H', ⟨by have := AE.out; omega⟩, zD⟩
       ·rw [if_neg c7] at H
        exact absurd H (by simp)
      ·rw [if_neg c6] at H
       exact absurd H (by simp)
     ·rw [if_neg c5] at H
      exact absurd H (by simp)
    ·rw [if_neg c4] at H; have AF : decide (AA < (l0.length : Int)) = false := decide_eq_false c4; clear c4; obtain rfl := Option.some.inj H
     go_wp2
     repeat (go_quiet (fail); try go_wp2)
     go_ret
     exact ⟨zF, zD⟩
 ·rw [if_neg c3] at H; have AB : ((l0.length : Int) == (l1.length : Int)) = false := beq_eq_false_iff_ne.mpr c3; have AC : ((l0.length : Int) != (l1.length : Int)) = true := bne_iff_ne.mpr c3
  have AD : (l0.length == l1.length) = false := by first | simpa using c3 | (simp at c3 ⊢; omega)
  obtain rfl := Option.some.inj H; go_enter Try.func36, Try.ntmps36
  go_wp2
  repeat (go_quiet (fail); try go_wp2)
  go_ret
  exact ⟨zF, zD⟩
end

section
attribute [local go_sem high] eqA59
/-! ### impl_Floor: function 37 -/
def impl_Floor.l0 : Nat → List (S59) → List (S59) → Int → Int → Option (Bool)
 | 0, _, _, _, _ => none
 | k + 1, x0, x1, x12, x13 => if x13 < x12 then (if 0 ≤ x13 then (if x13 < (x0.length : Int) then (if x13 < (x1.length : Int) then (if (!(((rd_T59 x0 x13).f0) == ((rd_T59 x1 x13).f0)) || (!(((rd_T59 x0 x13).f1) == ((rd_T59 x1 x13).f1)))) = true then (some false) else (impl_Floor.l0 k x0 x1 x12 (wrap64 (x13 + 1)))) else (none)) else (none)) else (none)) else (some true)
def impl_Floor.f (k : Nat) (l0 : List (S59)) (l1 : List (S59)) : Option (Bool) := if (l0.length : Int) = (l1.length : Int) then (impl_Floor.l0 k l0 l1 (l0.length : Int) 0) else (some false)
theorem impl_Floor.mono_l : ∀ k, (∀ y0 y1 y2 y3, LeO (impl_Floor.l0 k y0 y1 y2 y3) (impl_Floor.l0 (k + 1) y0 y1 y2 y3))
 | 0 => fun _ _ _ _ r h => by simp [impl_Floor.l0] at h
 | k + 1 => by
  have ih0 := impl_Floor.mono_l k
  ·intro y0 y1 y2 y3
   unfold impl_Floor.l0
   repeat' first | (with_reducible first | exact LeO.refl _ | exact LeO.none _ | refine LeO.ite ?_ ?_ | refine LeO.bind ?_ (fun _ => ?_) | apply ih0) | apply ih0 | exact LeO.none _ | refine LeO.ite ?_ ?_ | refine LeO.bind ?_ (fun _ => ?_)
theorem impl_Floor.mono : ∀ a0 a1 k, LeO (impl_Floor.f k a0 a1) (impl_Floor.f (k + 1) a0 a1) := by
 intro a0 a1 k; have ih0 := impl_Floor.mono_l k
 unfold impl_Floor.f
 repeat' first | (with_reducible first | exact LeO.refl _ | exact LeO.none _ | refine LeO.ite ?_ ?_ | refine LeO.bind ?_ (fun _ => ?_) | apply ih0) | apply ih0 | exact LeO.none _ | refine LeO.ite ?_ ?_ | refine LeO.bind ?_ (fun _ => ?_)
set_option maxHeartbeats 8000000 in
set_option maxRecDepth 100000 in
theorem impl_Floor.calls (k : Nat) (A0 : Option Addr) (c0 : Nat) (l0 : List (S59)) (A1 : Option Addr) (c1 : Nat) (l1 : List (S59)) (r : Bool) (w : World) (hr0 : Kd.C k59 w A0 l0.length l0) (hc0 : l0.length ≤ c0) (hr1 : Kd.C k59 w A1 l1.length l1) (hc1 : l1.length ≤ c1) (h : impl_Floor.f k l0 l1 = some r) :
  Calls Try.prog 37 #[.slice A0 l0.length c0, .slice A1 l1.length c1] w fun e w' => e = .returned (.bool r) ∧ Drawn0 w w' := by
 have hu59 := Try.underlying59; have HR0 := zm hr0; have AK := zm hc0; clear hr0 hc0; have HR1 := zm hr1; have AL := zm hc1; clear hr1 hc1; have H : (if (l0.length : Int) = (l1.length : Int) then (impl_Floor.l0 k l0 l1 (l0.length : Int) 0) else (some false)) = some r := h; clear h
 by_cases c3 : (l0.length : Int) = (l1.length : Int)
 ·rw [if_pos c3] at H; have AB : ((l0.length : Int) == (l1.length : Int)) = true := beq_iff_eq.mpr c3; have AC : ((l0.length : Int) != (l1.length : Int)) = false := bne_eq_false_iff_eq.mpr c3
  have AD : (l0.length == l1.length) = true := by first | simpa using c3 | (simp at c3 ⊢; omega)
  clear c3
  have H' := zm H
  clear H; go_enter Try.func37, Try.ntmps37
  go_wp2
  repeat (go_quiet (fail); try go_wp2)
  go_loopg [13] k (fun kq v13 w' => ∃ (AA : Int), v13 = .int .i64 AA ∧ Aside0 (impl_Floor.l0 kq l0 l1 (l0.length : Int) AA = some r) ∧ Aside0 (kq ≤ k) ∧ Drawn0 w w')
  case atStart => exact ⟨(0), zF, H', ⟨Nat.le_refl _⟩, zD⟩
  case round =>
   clear H'; (try clear c1); (try clear c3); (try clear AB); (try clear AC); (try clear AD); obtain ⟨AA, rfl, HA, AE, ⟨m1, rfl⟩⟩ := hrel
   cases gk with
   | zero => exact absurd HA.out (by simp [impl_Floor.l0])
   | succ k1 =>
    have H := HA.out; clear HA; simp only [impl_Floor.l0] at H
    by_cases c4 : AA < (l0.length : Int)
    ·rw [if_pos c4] at H; have AF : decide (AA < (l0.length : Int)) = true := decide_eq_true c4; clear c4
     by_cases c5 : 0 ≤ AA
     ·rw [if_pos c5] at H; have AH : decide (0 ≤ AA) = true := decide_eq_true c5; clear c5
      by_cases c6 : AA < (l0.length : Int)
      ·rw [if_pos c6] at H; have AI : decide (AA < (l0.length : Int)) = true := decide_eq_true c6; clear c6
       by_cases c7 : AA < (l1.length : Int)
       ·rw [if_pos c7] at H; have AJ : decide (AA < (l1.length : Int)) = true := decide_eq_true c7; clear c7
        by_cases c8 : (!(((rd_T59 l0 AA).f0) == ((rd_T59 l1 AA).f0)) || (!(((rd_T59 l0 AA).f1) == ((rd_T59 l1 AA).f1)))) = true
        ·rw [if_pos c8] at H; have AG : (!(((rd_T59 l0 AA).f0) == ((rd_T59 l1 AA).f0)) || (!(((rd_T59 l0 AA).f1) == ((rd_T59 l1 AA).f1)))) = true := c8; clear c8; obtain rfl := Option.some.inj H; have p767 : 0 ≤ (AA : Int) := zd; have q767 : AA < (l0.length : Int) := zd; obtain ⟨ad767, e767, hx767_0, hx767_1⟩ := at_T59 HR0.out AA p767 q767; cases e767; replace p767 := eq_true p767; replace q767 := eq_true q767; have p768 : 0 ≤ (AA : Int) := zd; have q768 : AA < (l1.length : Int) := zd; obtain ⟨ad768, e768, hx768_0, hx768_1⟩ := at_T59 HR1.out AA p768 q768; cases e768; replace p768 := eq_true p768; replace q768 := eq_true q768
         go_wp2
         repeat (go_quiet (fail); try go_wp2)
         go_ret
         exact ⟨zF, zD⟩
        ·rw [if_neg c8] at H
         have AG : (!(((rd_T59 l0 AA).f0) == ((rd_T59 l1 AA).f0)) || (!(((rd_T59 l0 AA).f1) == ((rd_T59 l1 AA).f1)))) = false := by simpa using c8
         clear c8
         have H' := zm H
         clear H; have p767 : 0 ≤ (AA : Int) := zd; have q767 : AA < (l0.length : Int) := zd; obtain ⟨ad767, e767, hx767_0, hx767_1⟩ := at_T59 HR0.out AA p767 q767; cases e767; replace p767 := eq_true p767; replace q767 := eq_true q767; have p768 : 0 ≤ (AA : Int) := zd; have q768 : AA < (l1.length : Int) := zd; obtain ⟨ad768, e768, hx768_0, hx768_1⟩ := at_T59 HR1.out AA p768 q768; cases e768; replace p768 := eq_true p768; replace q768 := eq_true q768
         go_wp2
         repeat (go_quiet (fail); try go_wp2)
         go_roundg k1
         case measure => have := AE.out; omega
         case rel => exact ⟨(wrap64 (AA + 1)), zF, H', ⟨by have := AE.out; omega⟩, zD⟩
       ·rw [if_neg c7] at H
        exact absurd H (by simp)
      ·rw [if_neg c6] at H
       exact absurd H (by simp)
     ·rw [if_neg c5] at H
      exact absurd H (by simp)
    ·rw [if_neg c4] at H; have AF : decide (AA < (l0.length : Int)) = false := decide_eq_false c4; clear c4; obtain rfl := Option.some.inj H
     go_wp2
     repeat (go_quiet (fail); try go_wp2)
     go_ret
     exact ⟨zF, zD⟩
 ·rw [if_neg c3] at H; have AB : ((l0.length : Int) == (l1.length : Int)) = false := beq_eq_false_iff_ne.mpr c3; have AC : ((l0.length : Int) != (l1.length : Int)) = true := bne_iff_ne.mpr c3
  have AD : (l0.length == l1.length) = false := by first | simpa using c3 | (simp at c3 ⊢; omega)
  obtain rfl := Option.some.inj H; go_enter Try.func37, Try.ntmps37
  go_wp2
  repeat (go_quiet (fail); try go_wp2)
  go_ret
  exact ⟨zF, zD⟩
end

/-! ### impl_StateSame: function 12 -/
def impl_StateSame.f (k : Nat) (l0_0 : List (S56)) (l0_1 : List (S59)) (l1_0 : List (S56)) (l1_1 : List (S59)) : Option (Bool) := (impl_Item.f k l0_0 l1_0).bind fun t771 => (if t771 = true then ((impl_Floor.f k l0_1 l1_1).bind fun t772 => (some t772)) else (some false))
theorem impl_StateSame.mono : ∀ a0 a1 a2 a3 k, LeO (impl_StateSame.f k a0 a1 a2 a3) (impl_StateSame.f (k + 1) a0 a1 a2 a3) := by
 intro a0 a1 a2 a3 k
 unfold impl_StateSame.f
 repeat' first | (with_reducible first | exact LeO.refl _ | exact LeO.none _ | refine LeO.ite ?_ ?_ | refine LeO.bind ?_ (fun _ => ?_) | apply impl_Floor.mono | apply impl_Item.mono) | apply impl_Floor.mono | apply impl_Item.mono | exact LeO.none _ | refine LeO.ite ?_ ?_ | refine LeO.bind ?_ (fun _ => ?_)
set_option maxHeartbeats 8000000 in
set_option maxRecDepth 100000 in
theorem impl_StateSame.calls (k : Nat) (A0_0 : Option Addr) (c0_0 : Nat) (l0_0 : List (S56)) (A0_1 : Option Addr) (c0_1 : Nat) (l0_1 : List (S59)) (A1_0 : Option Addr) (c1_0 : Nat) (l1_0 : List (S56)) (A1_1 : Option Addr) (c1_1 : Nat) (l1_1 : List (S59)) (r : Bool) (w : World) (hr0_0 : Kd.C k56 w A0_0 l0_0.length l0_0) (hc0_0 : l0_0.length ≤ c0_0) (hr0_1 : Kd.C k59 w A0_1 l0_1.length l0_1) (hc0_1 : l0_1.length ≤ c0_1) (hr1_0 : Kd.C k56 w A1_0 l1_0.length l1_0) (hc1_0 : l1_0.length ≤ c1_0) (hr1_1 : Kd.C k59 w A1_1 l1_1.length l1_1) (hc1_1 : l1_1.length ≤ c1_1) (h : impl_StateSame.f k l0_0 l0_1 l1_0 l1_1 = some r) :
  Calls Try.prog 12 #[.agg #[.slice A0_0 l0_0.length c0_0, .slice A0_1 l0_1.length c0_1], .agg #[.slice A1_0 l1_0.length c1_0, .slice A1_1 l1_1.length c1_1]] w fun e w' => e = .returned (.bool r) ∧ Below w.heap.size w w' := by
 have hu27 := Try.underlying27; have HR0_0 := zm hr0_0; have HC0_0 := zm hc0_0; clear hr0_0 hc0_0; have HR0_1 := zm hr0_1; have HC0_1 := zm hc0_1; clear hr0_1 hc0_1; have HR1_0 := zm hr1_0; have HC1_0 := zm hc1_0; clear hr1_0 hc1_0; have HR1_1 := zm hr1_1; have HC1_1 := zm hc1_1; clear hr1_1 hc1_1; have HB := zm (Below.refl w.heap.size w); have H : ((impl_Item.f k l0_0 l1_0).bind fun AE => (if AE = true then ((impl_Floor.f k l0_1 l1_1).bind fun AF => (some AF)) else (some false))) = some r := h; clear h; replace H := Option.bind_eq_some_iff.mp H; obtain ⟨AE, AM, H⟩ := H; (try dsimp only at H); have A3 := zm AM; clear AM
 by_cases c4 : AE = true
 ·subst c4; rw [if_pos rfl] at H; replace H := Option.bind_eq_some_iff.mp H; obtain ⟨AF, AN, H⟩ := H; (try dsimp only at H); have A5 := zm AN; clear AN; obtain rfl := Option.some.inj H; go_enter Try.func12, Try.ntmps12
  go_wp2_with (first | ((with_reducible refine gate_dst (N := 2) rfl ?_); refine zbox 2 #[.slice A0_0 l0_0.length c0_0, .slice A0_1 l0_1.length c0_1] 27 ?_; intro AK hg w6 hbox hb; have AA := zm (hbox); have AI := zge w hg zB; have AG := zge w hg zB; replace HB := zm (below_step zB hb); clear hb hbox hg) | ((with_reducible refine gate_dst (N := 3) rfl ?_); refine zbox 3 #[.slice A1_0 l1_0.length c1_0, .slice A1_1 l1_1.length c1_1] 27 ?_; intro AL hg w7 hbox hb; have AD := zm (hbox); have AJ := zge w hg zB; have AH := zge w hg zB; replace HB := zm (below_step zB hb); have AB := zlt hg (zb AA); have AC := zgt hg (zb AA); replace AA := zy AA hb; clear hb hbox hg; have Ag := AB.out; have Ah := AC.out; obtain ⟨Aa, Ab, Ac, Ad⟩ := zc2 AA; obtain ⟨AO, AP, AU, AV⟩ := zc2 AD) | ((with_reducible refine gate_callee (f := 36) rfl ?_); refine zg (some 9) #[.slice A0_0 l0_0.length c0_0, .slice A1_0 l1_0.length c1_0] Try.func36 ?_; (with_reducible refine (impl_Item.calls k _ _ l0_0 _ _ l1_0 true _ (zk (Kd.C_below HR0_0.out HB.out)) HC0_0.out (zk (Kd.C_below HR1_0.out HB.out)) HC1_0.out A3.out).mono ?_); rintro e w' ⟨rfl, ⟨nd, rfl⟩⟩; refine ⟨_, rfl, ?_⟩) | (go_at_call 37; (with_reducible refine (impl_Floor.calls k _ _ l0_1 _ _ l1_1 AF _ (zk (Kd.C_below HR0_1.out zB)) HC0_1.out (zk (Kd.C_below HR1_1.out zB)) HC1_1.out A5.out).mono ?_); rintro e w' ⟨rfl, ⟨nd, rfl⟩⟩))
  go_ret
  exact ⟨zE, zB⟩
 ·replace c4 := Bool.eq_false_iff.mpr c4; subst c4; rw [zff] at H; obtain rfl := Option.some.inj H; go_enter Try.func12, Try.ntmps12
  go_wp2_with (first | ((with_reducible refine gate_dst (N := 2) rfl ?_); refine zbox 2 #[.slice A0_0 l0_0.length c0_0, .slice A0_1 l0_1.length c0_1] 27 ?_; intro AK hg Ai hbox hb; have AA := zm (hbox); have AI := zge w hg zB; have AG := zge w hg zB; replace HB := zm (below_step zB hb); clear hb hbox hg) | ((with_reducible refine gate_dst (N := 3) rfl ?_); refine zbox 3 #[.slice A1_0 l1_0.length c1_0, .slice A1_1 l1_1.length c1_1] 27 ?_; intro AL hg Aj hbox hb; have AD := zm (hbox); have AJ := zge w hg zB; have AH := zge w hg zB; replace HB := zm (below_step zB hb); have AB := zlt hg (zb AA); have AC := zgt hg (zb AA); replace AA := zy AA hb; clear hb hbox hg; have Ae := AB.out; have Af := AC.out; obtain ⟨AQ, AR, AW, AX⟩ := zc2 AA; obtain ⟨AS, AT, AY, AZ⟩ := zc2 AD) | ((with_reducible refine gate_callee (f := 36) rfl ?_); refine zg (some 9) #[.slice A0_0 l0_0.length c0_0, .slice A1_0 l1_0.length c1_0] Try.func36 ?_; (with_reducible refine (impl_Item.calls k _ _ l0_0 _ _ l1_0 false _ (zk (Kd.C_below HR0_0.out HB.out)) HC0_0.out (zk (Kd.C_below HR1_0.out HB.out)) HC1_0.out A3.out).mono ?_); rintro e w' ⟨rfl, ⟨nd, rfl⟩⟩; refine ⟨_, rfl, ?_⟩))
  go_ret
  exact ⟨zE, zB⟩

end Go.Proofs.Ytgjglbjdkikajaa.P
