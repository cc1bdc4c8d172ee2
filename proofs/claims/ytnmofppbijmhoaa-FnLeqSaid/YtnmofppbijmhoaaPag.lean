-- by a program of this session, for this seat
import Derived.Test.YtnmofppbijmhoaaZ
import Derived.Test.YtnmofppbijmhoaaP0
import Derived.Test.YtnmofppbijmhoaaPad
import Derived.Test.YtnmofppbijmhoaaPaf
import Derived.Test.YtnmofppbijmhoaaPaa
namespace Go.Proofs.Ytnmofppbijmhoaa.P
open Go.RowKit Go.Proofs.YtnmofppbijmhoaaW.PrintWords Go.Proofs.YtnmofppbijmhoaaW.PrintLast Go.Proofs.YtnmofppbijmhoaaW.PrintMore Go.Proofs.Ytnmofppbijmhoaa.Z
attribute [local go_sem] max2_int min2_int max_two min_two max_three min_three max_four min_four   -- for this text's walks alone
set_option linter.unusedVariables false
set_option linter.unusedSimpArgs false

/-! ### impl_StateJoin: function 19 -/
def impl_StateJoin.f (k : Nat) (l0_0 : List (S44)) (l0_1 : List (S58)) (l1_0 : List (S44)) (l1_1 : List (S58)) : Option ((List (S44)) × (List (S58)) × Bool) := (impl_StateOk.f k l0_0 l0_1).bind fun t206 => (if t206 = true then ((impl_StateOk.f k l1_0 l1_1).bind fun t207 => (if t207 = true then ((impl_stateJoin.f k l0_0 l0_1 l1_0 l1_1).bind fun bt208 => (some (bt208.1, bt208.2, true))) else (some (([] : List (S44)), ([] : List (S58)), false)))) else (some (([] : List (S44)), ([] : List (S58)), false)))
theorem impl_StateJoin.mono : ∀ a0 a1 a2 a3 k, LeO (impl_StateJoin.f k a0 a1 a2 a3) (impl_StateJoin.f (k + 1) a0 a1 a2 a3) := by
 intro a0 a1 a2 a3 k
 unfold impl_StateJoin.f
 repeat' first | (with_reducible first | exact LeO.refl _ | exact LeO.none _ | refine LeO.ite ?_ ?_ | refine LeO.bind ?_ (fun _ => ?_) | apply impl_StateOk.mono | apply impl_stateJoin.mono) | apply impl_StateOk.mono | apply impl_stateJoin.mono | exact LeO.none _ | refine LeO.ite ?_ ?_ | refine LeO.bind ?_ (fun _ => ?_)
set_option maxHeartbeats 8000000 in
set_option maxRecDepth 100000 in
theorem impl_StateJoin.calls (k : Nat) (A0_0 : Option Addr) (c0_0 : Nat) (l0_0 : List (S44)) (A0_1 : Option Addr) (c0_1 : Nat) (l0_1 : List (S58)) (A1_0 : Option Addr) (c1_0 : Nat) (l1_0 : List (S44)) (A1_1 : Option Addr) (c1_1 : Nat) (l1_1 : List (S58)) (r1 : List (S44)) (r2 : List (S58)) (r3 : Bool) (w : World) (hr0_0 : Kd.C k44 w A0_0 l0_0.length l0_0) (hc0_0 : l0_0.length ≤ c0_0) (hr0_1 : Kd.C k58 w A0_1 l0_1.length l0_1) (hc0_1 : l0_1.length ≤ c0_1) (hr1_0 : Kd.C k44 w A1_0 l1_0.length l1_0) (hc1_0 : l1_0.length ≤ c1_0) (hr1_1 : Kd.C k58 w A1_1 l1_1.length l1_1) (hc1_1 : l1_1.length ≤ c1_1) (h : impl_StateJoin.f k l0_0 l0_1 l1_0 l1_1 = some (r1, r2, r3)) :
  Calls Try.prog 19 #[.agg #[.slice A0_0 l0_0.length c0_0, .slice A0_1 l0_1.length c0_1], .agg #[.slice A1_0 l1_0.length c1_0, .slice A1_1 l1_1.length c1_1]] w fun e w' => ∃ v0_ v1_ : Value, e = .returned (.tuple #[.agg #[v0_, v1_], .bool r3]) ∧ Kd.R k44 44 w' w.heap.size (fun _ => True) v0_ r1 ∧ Kd.R k58 58 w' w.heap.size (fun _ => True) v1_ r2 ∧ Below w.heap.size w w' := by
 have hu27 := Try.underlying27; have HR0_0 := zm hr0_0; have HC0_0 := zm hc0_0; clear hr0_0 hc0_0; have HR0_1 := zm hr0_1; have HC0_1 := zm hc0_1; clear hr0_1 hc0_1; have HR1_0 := zm hr1_0; have HC1_0 := zm hc1_0; clear hr1_0 hc1_0; have HR1_1 := zm hr1_1; have HC1_1 := zm hc1_1; clear hr1_1 hc1_1; have HB := zm (Below.refl w.heap.size w); have H : ((impl_StateOk.f k l0_0 l0_1).bind fun AK => (if AK = true then ((impl_StateOk.f k l1_0 l1_1).bind fun AL => (if AL = true then ((impl_stateJoin.f k l0_0 l0_1 l1_0 l1_1).bind fun AU => (some (AU.1, AU.2, true))) else (some (([] : List (S44)), ([] : List (S58)), false)))) else (some (([] : List (S44)), ([] : List (S58)), false)))) = some (r1, r2, r3) := h; clear h; replace H := Option.bind_eq_some_iff.mp H; obtain ⟨AK, AZ, H⟩ := H; (try dsimp only at H); have A3 := zm AZ; clear AZ
 by_cases c4 : AK = true
 ·subst c4; rw [if_pos rfl] at H; replace H := Option.bind_eq_some_iff.mp H; obtain ⟨AL, Aa, H⟩ := H; (try dsimp only at H); have A5 := zm Aa; clear Aa
  by_cases c6 : AL = true
  ·subst c6; rw [if_pos rfl] at H; replace H := Option.bind_eq_some_iff.mp H; obtain ⟨⟨AX, AY⟩, Ab, H⟩ := H; (try dsimp only at H); have A7 := zm Ab; clear Ab; simp only [Option.some.injEq, Prod.mk.injEq] at H; obtain ⟨rfl, rfl, rfl⟩ := H; go_enter Try.func19, Try.ntmps19
   go_wp2_with (first | ((with_reducible refine gate_dst (N := 2) rfl ?_); refine zbox 2 #[.slice A0_0 l0_0.length c0_0, .slice A0_1 l0_1.length c0_1] 27 ?_; intro AV hg w8 hbox hb; have AA := zm (hbox); have AP := zge w hg zB; have AM := zge w hg zB; replace HB := zm (below_step zB hb); clear hb hbox hg) | ((with_reducible refine gate_dst (N := 3) rfl ?_); refine zbox 3 #[.slice A1_0 l1_0.length c1_0, .slice A1_1 l1_1.length c1_1] 27 ?_; intro AW hg w9 hbox hb; have AB := zm (hbox); have AQ := zge w hg zB; have AN := zge w hg zB; replace HB := zm (below_step zB hb); have AD := zlt hg (zb AA); have AF := zgt hg (zb AA); replace AA := zy AA hb; clear hb hbox hg) | ((with_reducible refine gate_dst (N := 4) rfl ?_); refine zbox 4 #[.slice none 0 0, .slice none 0 0] 27 ?_; intro AJ hg Bi hbox hb; have AC := zm (hbox); have AR := zge w hg zB; have AO := zge w hg zB; replace HB := zm (below_step zB hb); have AE := zlt hg (zb AA); have AH := zgt hg (zb AA); replace AA := zy AA hb; have AG := zlt hg (zb AB); have AI := zgt hg (zb AB); replace AB := zy AB hb; clear hb hbox hg; have BQ := AD.out; have BZ := AF.out; have BR := AE.out; have Ba := AH.out; obtain ⟨Ag, Ah, B0, B2⟩ := zc2 AA) | ((with_reducible refine gate_callee (f := 27) rfl ?_); refine zg (some 7) #[.agg #[.slice A0_0 l0_0.length c0_0, .slice A0_1 l0_1.length c0_1]] Try.func27 ?_; (with_reducible refine (impl_StateOk.calls k _ _ l0_0 _ _ l0_1 true _ (zk (Kd.C_below HR0_0.out HB.out)) HC0_0.out (zk (Kd.C_below HR0_1.out HB.out)) HC0_1.out A3.out).mono ?_); rintro e Bj ⟨rfl, hb⟩; refine ⟨_, rfl, ?_⟩; replace AA := zy AA hb; replace AB := zy AB hb; replace AC := zy AC hb; replace HB := zm (below_step zB hb); clear hb; have BS := AG.out; have Bb := AI.out; obtain ⟨Ai, Aj, B3, B7⟩ := zc2 AB) | (go_at_call 27; (with_reducible refine (impl_StateOk.calls k _ _ l1_0 _ _ l1_1 true _ (zk (Kd.C_below HR1_0.out HB.out)) HC1_0.out (zk (Kd.C_below HR1_1.out HB.out)) HC1_1.out A5.out).mono ?_); rintro e Bk ⟨rfl, hb⟩; replace AA := zy AA hb; replace AB := zy AB hb; replace AC := zy AC hb; replace HB := zm (below_step zB hb); clear hb; obtain ⟨Ak, Al, BA, BB⟩ := zc2 AA; obtain ⟨Am, An, BC, BD⟩ := zc2 AB) | ((with_reducible refine gate_callee (f := 67) rfl ?_); refine zg (some 17) #[.agg #[.slice A0_0 l0_0.length c0_0, .slice A0_1 l0_1.length c0_1], .agg #[.slice A1_0 l1_0.length c1_0, .slice A1_1 l1_1.length c1_1]] Try.func67 ?_; (with_reducible refine (impl_stateJoin.calls k _ _ l0_0 _ _ l0_1 _ _ l1_0 _ _ l1_1 AX AY _ (zk (Kd.C_below HR0_0.out HB.out)) HC0_0.out (zk (Kd.C_below HR0_1.out HB.out)) HC0_1.out (zk (Kd.C_below HR1_0.out HB.out)) HC1_0.out (zk (Kd.C_below HR1_1.out HB.out)) HC1_1.out A7.out).mono ?_); rintro e Bl ⟨v209, v212, rfl, ho0, ho1, hb⟩; refine ⟨_, rfl, ?_⟩; have AS := zm (Kd.R_lower ho0 (below_size zB)); have AT := zm (Kd.R_lower ho1 (below_size zB)); replace AA := zy AA hb; replace AB := zy AB hb; replace AC := zy AC hb; replace HB := zm (below_step zB hb); clear hb ho0 ho1; obtain ⟨Ac, Ae, eo21⟩ := Kd.R_slice AS.out; subst eo21; obtain ⟨Ao, Ap, BE, BF⟩ := zc2 AC; obtain ⟨Ad, Af, eo23⟩ := Kd.R_slice AT.out; subst eo23))
   refine bodyPost_ret (results_ct rfl _ _ AJ 27 #[.slice Ac AX.length Ae, .slice Ad AY.length Af] (0, 0) _ rfl (zput (zput (zb AC) 0) 1) Try.underlying27 rfl (by kernel_rfl)) rfl ?_
   exact ⟨_, _, zE, zrs <| Kd.R_mono (zfr (zfr (Kd.R_types AS.out AC.out (by decide)))) (fun _ hk => trivial), zrs <| Kd.R_mono (zfr (zfr (Kd.R_types AT.out AC.out (by decide)))) (fun _ hk => trivial), zB⟩
  ·replace c6 := Bool.eq_false_iff.mpr c6; subst c6; rw [zff] at H; simp only [Option.some.injEq, Prod.mk.injEq] at H; obtain ⟨rfl, rfl, rfl⟩ := H; go_enter Try.func19, Try.ntmps19
   go_wp2_with (first | ((with_reducible refine gate_dst (N := 2) rfl ?_); refine zbox 2 #[.slice A0_0 l0_0.length c0_0, .slice A0_1 l0_1.length c0_1] 27 ?_; intro AV hg Bm hbox hb; have AA := zm (hbox); have AP := zge w hg zB; have AM := zge w hg zB; replace HB := zm (below_step zB hb); clear hb hbox hg) | ((with_reducible refine gate_dst (N := 3) rfl ?_); refine zbox 3 #[.slice A1_0 l1_0.length c1_0, .slice A1_1 l1_1.length c1_1] 27 ?_; intro AW hg Bn hbox hb; have AB := zm (hbox); have AQ := zge w hg zB; have AN := zge w hg zB; replace HB := zm (below_step zB hb); have AD := zlt hg (zb AA); have AF := zgt hg (zb AA); replace AA := zy AA hb; clear hb hbox hg) | ((with_reducible refine gate_dst (N := 4) rfl ?_); refine zbox 4 #[.slice none 0 0, .slice none 0 0] 27 ?_; intro AJ hg Bo hbox hb; have AC := zm (hbox); have AR := zge w hg zB; have AO := zge w hg zB; replace HB := zm (below_step zB hb); have AE := zlt hg (zb AA); have AH := zgt hg (zb AA); replace AA := zy AA hb; have AG := zlt hg (zb AB); have AI := zgt hg (zb AB); replace AB := zy AB hb; clear hb hbox hg; have BT := AD.out; have Bc := AF.out; have BU := AE.out; have Bd := AH.out; obtain ⟨Aq, Ar, BG, BH⟩ := zc2 AA) | ((with_reducible refine gate_callee (f := 27) rfl ?_); refine zg (some 7) #[.agg #[.slice A0_0 l0_0.length c0_0, .slice A0_1 l0_1.length c0_1]] Try.func27 ?_; (with_reducible refine (impl_StateOk.calls k _ _ l0_0 _ _ l0_1 true _ (zk (Kd.C_below HR0_0.out HB.out)) HC0_0.out (zk (Kd.C_below HR0_1.out HB.out)) HC0_1.out A3.out).mono ?_); rintro e Bp ⟨rfl, hb⟩; refine ⟨_, rfl, ?_⟩; replace AA := zy AA hb; replace AB := zy AB hb; replace AC := zy AC hb; replace HB := zm (below_step zB hb); clear hb; have BV := AG.out; have Be := AI.out; obtain ⟨As, At, BI, BJ⟩ := zc2 AB) | (go_at_call 27; (with_reducible refine (impl_StateOk.calls k _ _ l1_0 _ _ l1_1 false _ (zk (Kd.C_below HR1_0.out HB.out)) HC1_0.out (zk (Kd.C_below HR1_1.out HB.out)) HC1_1.out A5.out).mono ?_); rintro e Bq ⟨rfl, hb⟩; replace AA := zy AA hb; replace AB := zy AB hb; replace AC := zy AC hb; replace HB := zm (below_step zB hb); clear hb; obtain ⟨Au, Av, BK, BL⟩ := zc2 AC))
   refine bodyPost_ret (results_ct rfl _ _ AJ 27 #[.slice none 0 0, .slice none 0 0] (0, 0) _ rfl (zput (zput (zb AC) 0) 1) Try.underlying27 rfl (by kernel_rfl)) rfl ?_
   exact ⟨_, _, zE, znil, znil, zB⟩
 ·replace c4 := Bool.eq_false_iff.mpr c4; subst c4; rw [zff] at H; simp only [Option.some.injEq, Prod.mk.injEq] at H; obtain ⟨rfl, rfl, rfl⟩ := H; go_enter Try.func19, Try.ntmps19
  go_wp2_with (first | ((with_reducible refine gate_dst (N := 2) rfl ?_); refine zbox 2 #[.slice A0_0 l0_0.length c0_0, .slice A0_1 l0_1.length c0_1] 27 ?_; intro AV hg Br hbox hb; have AA := zm (hbox); have AP := zge w hg zB; have AM := zge w hg zB; replace HB := zm (below_step zB hb); clear hb hbox hg) | ((with_reducible refine gate_dst (N := 3) rfl ?_); refine zbox 3 #[.slice A1_0 l1_0.length c1_0, .slice A1_1 l1_1.length c1_1] 27 ?_; intro AW hg Bs hbox hb; have AB := zm (hbox); have AQ := zge w hg zB; have AN := zge w hg zB; replace HB := zm (below_step zB hb); have AD := zlt hg (zb AA); have AF := zgt hg (zb AA); replace AA := zy AA hb; clear hb hbox hg) | ((with_reducible refine gate_dst (N := 4) rfl ?_); refine zbox 4 #[.slice none 0 0, .slice none 0 0] 27 ?_; intro AJ hg Bt hbox hb; have AC := zm (hbox); have AR := zge w hg zB; have AO := zge w hg zB; replace HB := zm (below_step zB hb); have AE := zlt hg (zb AA); have AH := zgt hg (zb AA); replace AA := zy AA hb; have AG := zlt hg (zb AB); have AI := zgt hg (zb AB); replace AB := zy AB hb; clear hb hbox hg; have BW := AD.out; have Bf := AF.out; have BX := AE.out; have Bg := AH.out; obtain ⟨Aw, Ax, BM, BN⟩ := zc2 AA) | ((with_reducible refine gate_callee (f := 27) rfl ?_); refine zg (some 7) #[.agg #[.slice A0_0 l0_0.length c0_0, .slice A0_1 l0_1.length c0_1]] Try.func27 ?_; (with_reducible refine (impl_StateOk.calls k _ _ l0_0 _ _ l0_1 false _ (zk (Kd.C_below HR0_0.out HB.out)) HC0_0.out (zk (Kd.C_below HR0_1.out HB.out)) HC0_1.out A3.out).mono ?_); rintro e Bu ⟨rfl, hb⟩; refine ⟨_, rfl, ?_⟩; replace AA := zy AA hb; replace AB := zy AB hb; replace AC := zy AC hb; replace HB := zm (below_step zB hb); clear hb; have BY := AI.out; have Bh := AG.out; obtain ⟨Ay, Az, BO, BP⟩ := zc2 AC))
  refine bodyPost_ret (results_ct rfl _ _ AJ 27 #[.slice none 0 0, .slice none 0 0] (0, 0) _ rfl (zput (zput (zb AC) 0) 1) Try.underlying27 rfl (by kernel_rfl)) rfl ?_
  exact ⟨_, _, zE, znil, znil, zB⟩

section
attribute [local go_sem high] eqA44
/-! ### impl_Item: function 68 -/
def impl_Item.l0 : Nat → List (S44) → List (S44) → Int → Int → Option (Bool)
 | 0, _, _, _, _ => none
 | k + 1, x0, x1, x12, x13 => if x13 < x12 then (if 0 ≤ x13 then (if x13 < (x0.length : Int) then (if x13 < (x1.length : Int) then (if (!(((rd_T44 x0 x13).f0) == ((rd_T44 x1 x13).f0)) || ((!(((rd_T44 x0 x13).f1.f0) == ((rd_T44 x1 x13).f1.f0)) || (!(((rd_T44 x0 x13).f1.f1) == ((rd_T44 x1 x13).f1.f1)) || (!(((rd_T44 x0 x13).f1.f2) == ((rd_T44 x1 x13).f1.f2)) || (!(((rd_T44 x0 x13).f1.f3) == ((rd_T44 x1 x13).f1.f3)) || (!((((rd_T44 x0 x13).f1.f4).toList) == (((rd_T44 x1 x13).f1.f4).toList))))))))) = true then (some false) else (impl_Item.l0 k x0 x1 x12 (wrap64 (x13 + 1)))) else (none)) else (none)) else (none)) else (some true)
def impl_Item.f (k : Nat) (l0 : List (S44)) (l1 : List (S44)) : Option (Bool) := if (l0.length : Int) = (l1.length : Int) then (impl_Item.l0 k l0 l1 (l0.length : Int) 0) else (some false)
theorem impl_Item.mono_l : ∀ k, (∀ y0 y1 y2 y3, LeO (impl_Item.l0 k y0 y1 y2 y3) (impl_Item.l0 (k + 1) y0 y1 y2 y3))
 | 0 => fun _ _ _ _ r h => by simp [impl_Item.l0] at h
 | k + 1 => by
  have ih0 := impl_Item.mono_l k
  ·intro y0 y1 y2 y3
   unfold impl_Item.l0
   repeat' first | (with_reducible first | exact LeO.refl _ | exact LeO.none _ | refine LeO.ite ?_ ?_ | refine LeO.bind ?_ (fun _ => ?_) | apply ih0) | apply ih0 | exact LeO.none _ | refine LeO.ite ?_ ?_ | refine LeO.bind ?_ (fun _ => ?_)
theorem impl_Item.mono : ∀ a0 a1 k, LeO (impl_Item.f k a0 a1) (impl_Item.f (k + 1) a0 a1) := by
 intro a0 a1 k; have ih0 := impl_Item.mono_l k
 unfold impl_Item.f
 repeat' first | (with_reducible first | exact LeO.refl _ | exact LeO.none _ | refine LeO.ite ?_ ?_ | refine LeO.bind ?_ (fun _ => ?_) | apply ih0) | apply ih0 | exact LeO.none _ | refine LeO.ite ?_ ?_ | refine LeO.bind ?_ (fun _ => ?_)
set_option maxHeartbeats 8000000 in
set_option maxRecDepth 100000 in
theorem impl_Item.calls (k : Nat) (A0 : Option Addr) (c0 : Nat) (l0 : List (S44)) (A1 : Option Addr) (c1 : Nat) (l1 : List (S44)) (r : Bool) (w : World) (hr0 : Kd.C k44 w A0 l0.length l0) (hc0 : l0.length ≤ c0) (hr1 : Kd.C k44 w A1 l1.length l1) (hc1 : l1.length ≤ c1) (h : impl_Item.f k l0 l1 = some r) :
  Calls Try.prog 68 #[.slice A0 l0.length c0, .slice A1 l1.length c1] w fun e w' => e = .returned (.bool r) ∧ Drawn0 w w' := by
 have hu44 := Try.underlying44; have HR0 := zm hr0; have AK := zm hc0; clear hr0 hc0; have HR1 := zm hr1; have AL := zm hc1; clear hr1 hc1; have H : (if (l0.length : Int) = (l1.length : Int) then (impl_Item.l0 k l0 l1 (l0.length : Int) 0) else (some false)) = some r := h; clear h
 by_cases c3 : (l0.length : Int) = (l1.length : Int)
 ·rw [if_pos c3] at H; have AB : ((l0.length : Int) == (l1.length : Int)) = true := beq_iff_eq.mpr c3; have AC : ((l0.length : Int) != (l1.length : Int)) = false := bne_eq_false_iff_eq.mpr c3
  have AD : (l0.length == l1.length) = true := by first | simpa using c3 | (simp at c3 ⊢; omega)
  clear c3
  have H' := zm H
  clear H; go_enter Try.func68, Try.ntmps68
  go_wp2
  repeat (go_quiet (fail); try go_wp2)
  go_loopg [13] k (fun kq v13 w' => ∃ (AA : Int), v13 = .int .i64 AA ∧ Aside0 (impl_Item.l0 kq l0 l1 (l0.length : Int) AA = some r) ∧ Aside0 (kq ≤ k) ∧ Drawn0 w w')
  case atStart => exact ⟨(0), zF, H', ⟨Nat.le_refl _⟩, zD⟩
  case round =>
   clear H'; (try clear c1); (try clear c3); (try clear AB); (try clear AC); (try clear AD); obtain ⟨AA, rfl, HA, AE, ⟨m1, rfl⟩⟩ := hrel
   cases gk with
   | zero => exact absurd HA.out (by simp [impl_Item.l0])
   | succ k1 =>
    have H := HA.out; clear HA; simp only [impl_Item.l0] at H
    by_cases c4 : AA < (l0.length : Int)
    ·rw [if_pos c4] at H; have AF : decide (AA < (l0.length : Int)) = true := decide_eq_true c4; clear c4
     by_cases c5 : 0 ≤ AA
     ·rw [if_pos c5] at H; have AH : decide (0 ≤ AA) = true := decide_eq_true c5; clear c5
      by_cases c6 : AA < (l0.length : Int)
      ·rw [if_pos c6] at H; have AI : decide (AA < (l0.length : Int)) = true := decide_eq_true c6; clear c6
       by_cases c7 : AA < (l1.length : Int)
       ·rw [if_pos c7] at H; have AJ : decide (AA < (l1.length : Int)) = true := decide_eq_true c7; clear c7
        by_cases c8 : (!(((rd_T44 l0 AA).f0) == ((rd_T44 l1 AA).f0)) || ((!(((rd_T44 l0 AA).f1.f0) == ((rd_T44 l1 AA).f1.f0)) || (!(((rd_T44 l0 AA).f1.f1) == ((rd_T44 l1 AA).f1.f1)) || (!(((rd_T44 l0 AA).f1.f2) == ((rd_T44 l1 AA).f1.f2)) || (!(((rd_T44 l0 AA).f1.f3) == ((rd_T44 l1 AA).f1.f3)) || (!((((rd_T44 l0 AA).f1.f4).toList) == (((rd_T44 l1 AA).f1.f4).toList))))))))) = true
        ·rw [if_pos c8] at H; have AG : (!(((rd_T44 l0 AA).f0) == ((rd_T44 l1 AA).f0)) || ((!(((rd_T44 l0 AA).f1.f0) == ((rd_T44 l1 AA).f1.f0)) || (!(((rd_T44 l0 AA).f1.f1) == ((rd_T44 l1 AA).f1.f1)) || (!(((rd_T44 l0 AA).f1.f2) == ((rd_T44 l1 AA).f1.f2)) || (!(((rd_T44 l0 AA).f1.f3) == ((rd_T44 l1 AA).f1.f3)) || (!((((rd_T44 l0 AA).f1.f4).toList) == (((rd_T44 l1 AA).f1.f4).toList))))))))) = true := c8; clear c8; obtain rfl := Option.some.inj H; have p214 : 0 ≤ (AA : Int) := zd; have q214 : AA < (l0.length : Int) := zd; obtain ⟨ad214, e214, hx214_0, hx214_1, hx214_2, hx214_3, hx214_4, hx214_5⟩ := at_T44 HR0.out AA p214 q214; cases e214; replace p214 := eq_true p214; replace q214 := eq_true q214; have p215 : 0 ≤ (AA : Int) := zd; have q215 : AA < (l1.length : Int) := zd; obtain ⟨ad215, e215, hx215_0, hx215_1, hx215_2, hx215_3, hx215_4, hx215_5⟩ := at_T44 HR1.out AA p215 q215; cases e215; replace p215 := eq_true p215; replace q215 := eq_true q215
         go_wp2
         repeat (go_quiet (fail); try go_wp2)
         go_ret
         exact ⟨zF, zD⟩
        ·rw [if_neg c8] at H
         have AG : (!(((rd_T44 l0 AA).f0) == ((rd_T44 l1 AA).f0)) || ((!(((rd_T44 l0 AA).f1.f0) == ((rd_T44 l1 AA).f1.f0)) || (!(((rd_T44 l0 AA).f1.f1) == ((rd_T44 l1 AA).f1.f1)) || (!(((rd_T44 l0 AA).f1.f2) == ((rd_T44 l1 AA).f1.f2)) || (!(((rd_T44 l0 AA).f1.f3) == ((rd_T44 l1 AA).f1.f3)) || (!((((rd_T44 l0 AA).f1.f4).toList) == (((rd_T44 l1 AA).f1.f4).toList))))))))) = false := by simpa using c8
         clear c8
         have H' := zm H
         clear H; have p214 : 0 ≤ (AA : Int) := zd; have q214 : AA < (l0.length : Int) := zd; obtain ⟨ad214, e214, hx214_0, hx214_1, hx214_2, hx214_3, hx214_4, hx214_5⟩ := at_T44 HR0.out AA p214 q214; cases e214; replace p214 := eq_true p214; replace q214 := eq_true q214; have p215 : 0 ≤ (AA : Int) := zd; have q215 : AA < (l1.length : Int) := zd; obtain ⟨ad215, e215, hx215_0, hx215_1, hx215_2, hx215_3, hx215_4, hx215_5⟩ := at_T44 HR1.out AA p215 q215; cases e215; replace p215 := eq_true p215; replace q215 := eq_true q215
         go_wp2
         repeat (go_quiet (fail); try go_wp2)
         go_roundg k1
         case measure => have := AE.out; omega
         case rel => exact ⟨(wrap64 (AA + 1)), zF, H', ⟨by have := AE.out; omega⟩, zD⟩
       ·rw [if_neg c7] at H
        exact absurd H (by simp)
      ·rw [if_neg c6] at H
       exact absurd H (by simp)
     ·rw [if_neg c5] at H
      exact absurd H (by simp)
    ·rw [if_neg c4] at H; have AF : decide (AA < (l0.length : Int)) = false := decide_eq_false c4; clear c4; obtain rfl := Option.some.inj H
     go_wp2
     repeat (go_quiet (fail); try go_wp2)
     go_ret
     exact ⟨zF, zD⟩
 ·rw [if_neg c3] at H; have AB : ((l0.length : Int) == (l1.length : Int)) = false := beq_eq_false_iff_ne.mpr c3; have AC : ((l0.length : Int) != (l1.length : Int)) = true := bne_iff_ne.mpr c3
  have AD : (l0.length == l1.length) = false := by first | simpa using c3 | (simp at c3 ⊢; omega)
  obtain rfl := Option.some.inj H; go_enter Try.func68, Try.ntmps68
  go_wp2
  repeat (go_quiet (fail); try go_wp2)
  go_ret
  exact ⟨zF, zD⟩
end

section
attribute [local go_sem high] eqA58
/-! ### impl_Floor: function 69 -/
def impl_Floor.l0 : Nat → List (S58) → List (S58) → Int → Int → Option (Bool)
 | 0, _, _, _, _ => none
 | k + 1, x0, x1, x12, x13 => if x13 < x12 then (if 0 ≤ x13 then (if x13 < (x0.length : Int) then (if x13 < (x1.length : Int) then (if (!(((rd_T58 x0 x13).f0) == ((rd_T58 x1 x13).f0)) || (!(((rd_T58 x0 x13).f1) == ((rd_T58 x1 x13).f1)))) = true then (some false) else (impl_Floor.l0 k x0 x1 x12 (wrap64 (x13 + 1)))) else (none)) else (none)) else (none)) else (some true)
def impl_Floor.f (k : Nat) (l0 : List (S58)) (l1 : List (S58)) : Option (Bool) := if (l0.length : Int) = (l1.length : Int) then (impl_Floor.l0 k l0 l1 (l0.length : Int) 0) else (some false)
theorem impl_Floor.mono_l : ∀ k, (∀ y0 y1 y2 y3, LeO (impl_Floor.l0 k y0 y1 y2 y3) (impl_Floor.l0 (k + 1) y0 y1 y2 y3))
 | 0 => fun _ _ _ _ r h => by simp [impl_Floor.l0] at h
 | k + 1 => by
  have ih0 := impl_Floor.mono_l k
  ·intro y0 y1 y2 y3
   unfold impl_Floor.l0
   repeat' first | (with_reducible first | exact LeO.refl _ | exact LeO.none _ | refine LeO.ite ?_ ?_ | refine LeO.bind ?_ (fun _ => ?_) | apply ih0) | apply ih0 | exact LeO.none _ | refine LeO.ite ?_ ?_ | refine LeO.bind ?_ (fun _ => ?_)
theorem impl_Floor.mono : ∀ a0 a1 k, LeO (impl_Floor.f k a0 a1) (impl_Floor.f (k + 1) a0 a1) := by
 intro a0 a1 k; have ih0 := impl_Floor.mono_l k
 unfold impl_Floor.f
 repeat' first | (with_reducible first | exact LeO.refl _ | exact LeO.none _ | refine LeO.ite ?_ ?_ | refine LeO.bind ?_ (fun _ => ?_) | apply ih0) | apply ih0 | exact LeO.none _ | refine LeO.ite ?_ ?_ | refine LeO.bind ?_ (fun _ => ?_)
set_option maxHeartbeats 8000000 in
set_option maxRecDepth 100000 in
theorem impl_Floor.calls (k : Nat) (A0 : Option Addr) (c0 : Nat) (l0 : List (S58)) (A1 : Option Addr) (c1 : Nat) (l1 : List (S58)) (r : Bool) (w : World) (hr0 : Kd.C k58 w A0 l0.length l0) (hc0 : l0.length ≤ c0) (hr1 : Kd.C k58 w A1 l1.length l1) (hc1 : l1.length ≤ c1) (h : impl_Floor.f k l0 l1 = some r) :
  Calls Try.prog 69 #[.slice A0 l0.length c0, .slice A1 l1.length c1] w fun e w' => e = .returned (.bool r) ∧ Drawn0 w w' := by
 have hu58 := Try.underlying58; have HR0 := zm hr0; have AK := zm hc0; clear hr0 hc0; have HR1 := zm hr1; have AL := zm hc1; clear hr1 hc1; have H : (if (l0.length : Int) = (l1.length : Int) then (impl_Floor.l0 k l0 l1 (l0.length : Int) 0) else (some false)) = some r := h; clear h
 by_cases c3 : (l0.length : Int) = (l1.length : Int)
 ·rw [if_pos c3] at H; have AB : ((l0.length : Int) == (l1.length : Int)) = true := beq_iff_eq.mpr c3; have AC : ((l0.length : Int) != (l1.length : Int)) = false := bne_eq_false_iff_eq.mpr c3
  have AD : (l0.length == l1.length) = true := by first | simpa using c3 | (simp at c3 ⊢; omega)
  clear c3
  have H' := zm H
  clear H; go_enter Try.func69, Try.ntmps69
  go_wp2
  repeat (go_quiet (fail); try go_wp2)
  go_loopg [13] k (fun kq v13 w' => ∃ (AA : Int), v13 = .int .i64 AA ∧ Aside0 (impl_Floor.l0 kq l0 l1 (l0.length : Int) AA = some r) ∧ Aside0 (kq ≤ k) ∧ Drawn0 w w')
  case atStart => exact ⟨(0), zF, H', ⟨Nat.le_refl _⟩, zD⟩
  case round =>
   clear H'; (try clear c1); (try clear c3); (try clear AB); (try clear AC); (try clear AD); obtain ⟨AA, rfl, HA, AE, ⟨m1, rfl⟩⟩ := hrel
   cases gk with
   | zero => exact absurd HA.out (by simp [impl_Floor.l0])
   | succ k1 =>
    have H := HA.out; clear HA; simp only [impl_Floor.l0] at H
    by_cases c4 : AA < (l0.length : Int)
    ·rw [if_pos c4] at H; have AF : decide (AA < (l0.length : Int)) = true := decide_eq_true c4; clear c4
     by_cases c5 : 0 ≤ AA
     ·rw [if_pos c5] at H; have AH : decide (0 ≤ AA) = true := decide_eq_true c5; clear c5
      by_cases c6 : AA < (l0.length : Int)
      ·rw [if_pos c6] at H; have AI : decide (AA < (l0.length : Int)) = true := decide_eq_true c6; clear c6
       by_cases c7 : AA < (l1.length : Int)
       ·rw [if_pos c7] at H; have AJ : decide (AA < (l1.length : Int)) = true := decide_eq_true c7; clear c7
        by_cases c8 : (!(((rd_T58 l0 AA).f0) == ((rd_T58 l1 AA).f0)) || (!(((rd_T58 l0 AA).f1) == ((rd_T58 l1 AA).f1)))) = true
        ·rw [if_pos c8] at H; have AG : (!(((rd_T58 l0 AA).f0) == ((rd_T58 l1 AA).f0)) || (!(((rd_T58 l0 AA).f1) == ((rd_T58 l1 AA).f1)))) = true := c8; clear c8; obtain rfl := Option.some.inj H; have p216 : 0 ≤ (AA : Int) := zd; have q216 : AA < (l0.length : Int) := zd; obtain ⟨ad216, e216, hx216_0, hx216_1⟩ := at_T58 HR0.out AA p216 q216; cases e216; replace p216 := eq_true p216; replace q216 := eq_true q216; have p217 : 0 ≤ (AA : Int) := zd; have q217 : AA < (l1.length : Int) := zd; obtain ⟨ad217, e217, hx217_0, hx217_1⟩ := at_T58 HR1.out AA p217 q217; cases e217; replace p217 := eq_true p217; replace q217 := eq_true q217
         go_wp2
         repeat (go_quiet (fail); try go_wp2)
         go_ret
         exact ⟨zF, zD⟩
        ·rw [if_neg c8] at H
         have AG : (!(((rd_T58 l0 AA).f0) == ((rd_T58 l1 AA).f0)) || (!(((rd_T58 l0 AA).f1) == ((rd_T58 l1 AA).f1)))) = false := by simpa using c8
         clear c8
         have H' := zm H
         clear H; have p216 : 0 ≤ (AA : Int) := zd; have q216 : AA < (l0.length : Int) := zd; obtain ⟨ad216, e216, hx216_0, hx216_1⟩ := at_T58 HR0.out AA p216 q216; cases e216; replace p216 := eq_true p216; replace q216 := eq_true q216; have p217 : 0 ≤ (AA : Int) := zd; have q217 : AA < (l1.length : Int) := zd; obtain ⟨ad217, e217, hx217_0, hx217_1⟩ := at_T58 HR1.out AA p217 q217; cases e217; replace p217 := eq_true p217; replace q217 := eq_true q217
         go_wp2
         repeat (go_quiet (fail); try go_wp2)
         go_roundg k1
         case measure => have := AE.out; omega
         case rel => exact ⟨(wrap64 (AA + 1)), zF, H', ⟨by have := AE.out; omega⟩, zD⟩
       ·rw [if_neg c7] at H
        exact absurd H (by simp)
      ·rw [if_neg c6] at H
       exact absurd H (by simp)
     ·rw [if_neg c5] at H
      exact absurd H (by simp)
    ·rw [if_neg c4] at H; have AF : decide (AA < (l0.length : Int)) = false := decide_eq_false c4; clear c4; obtain rfl := Option.some.inj H
     go_wp2
     repeat (go_quiet (fail); try go_wp2)
     go_ret
     exact ⟨zF, zD⟩
 ·rw [if_neg c3] at H; have AB : ((l0.length : Int) == (l1.length : Int)) = false := beq_eq_false_iff_ne.mpr c3; have AC : ((l0.length : Int) != (l1.length : Int)) = true := bne_iff_ne.mpr c3
  have AD : (l0.length == l1.length) = false := by first | simpa using c3 | (simp at c3 ⊢; omega)
  obtain rfl := Option.some.inj H; go_enter Try.func69, Try.ntmps69
  go_wp2
  repeat (go_quiet (fail); try go_wp2)
  go_ret
  exact ⟨zF, zD⟩
end

/-! ### impl_StateSame: function 20 -/
def impl_StateSame.f (k : Nat) (l0_0 : List (S44)) (l0_1 : List (S58)) (l1_0 : List (S44)) (l1_1 : List (S58)) : Option (Bool) := (impl_Item.f k l0_0 l1_0).bind fun t220 => (if t220 = true then ((impl_Floor.f k l0_1 l1_1).bind fun t221 => (some t221)) else (some false))
theorem impl_StateSame.mono : ∀ a0 a1 a2 a3 k, LeO (impl_StateSame.f k a0 a1 a2 a3) (impl_StateSame.f (k + 1) a0 a1 a2 a3) := by
 intro a0 a1 a2 a3 k
 unfold impl_StateSame.f
 repeat' first | (with_reducible first | exact LeO.refl _ | exact LeO.none _ | refine LeO.ite ?_ ?_ | refine LeO.bind ?_ (fun _ => ?_) | apply impl_Floor.mono | apply impl_Item.mono) | apply impl_Floor.mono | apply impl_Item.mono | exact LeO.none _ | refine LeO.ite ?_ ?_ | refine LeO.bind ?_ (fun _ => ?_)
set_option maxHeartbeats 8000000 in
set_option maxRecDepth 100000 in
theorem impl_StateSame.calls (k : Nat) (A0_0 : Option Addr) (c0_0 : Nat) (l0_0 : List (S44)) (A0_1 : Option Addr) (c0_1 : Nat) (l0_1 : List (S58)) (A1_0 : Option Addr) (c1_0 : Nat) (l1_0 : List (S44)) (A1_1 : Option Addr) (c1_1 : Nat) (l1_1 : List (S58)) (r : Bool) (w : World) (hr0_0 : Kd.C k44 w A0_0 l0_0.length l0_0) (hc0_0 : l0_0.length ≤ c0_0) (hr0_1 : Kd.C k58 w A0_1 l0_1.length l0_1) (hc0_1 : l0_1.length ≤ c0_1) (hr1_0 : Kd.C k44 w A1_0 l1_0.length l1_0) (hc1_0 : l1_0.length ≤ c1_0) (hr1_1 : Kd.C k58 w A1_1 l1_1.length l1_1) (hc1_1 : l1_1.length ≤ c1_1) (h : impl_StateSame.f k l0_0 l0_1 l1_0 l1_1 = some r) :
  Calls Try.prog 20 #[.agg #[.slice A0_0 l0_0.length c0_0, .slice A0_1 l0_1.length c0_1], .agg #[.slice A1_0 l1_0.length c1_0, .slice A1_1 l1_1.length c1_1]] w fun e w' => e = .returned (.bool r) ∧ Below w.heap.size w w' := by
 have hu27 := Try.underlying27; have HR0_0 := zm hr0_0; have HC0_0 := zm hc0_0; clear hr0_0 hc0_0; have HR0_1 := zm hr0_1; have HC0_1 := zm hc0_1; clear hr0_1 hc0_1; have HR1_0 := zm hr1_0; have HC1_0 := zm hc1_0; clear hr1_0 hc1_0; have HR1_1 := zm hr1_1; have HC1_1 := zm hc1_1; clear hr1_1 hc1_1; have HB := zm (Below.refl w.heap.size w); have H : ((impl_Item.f k l0_0 l1_0).bind fun AE => (if AE = true then ((impl_Floor.f k l0_1 l1_1).bind fun AF => (some AF)) else (some false))) = some r := h; clear h; replace H := Option.bind_eq_some_iff.mp H; obtain ⟨AE, AM, H⟩ := H; (try dsimp only at H); have A3 := zm AM; clear AM
 by_cases c4 : AE = true
 ·subst c4; rw [if_pos rfl] at H; replace H := Option.bind_eq_some_iff.mp H; obtain ⟨AF, AN, H⟩ := H; (try dsimp only at H); have A5 := zm AN; clear AN; obtain rfl := Option.some.inj H; go_enter Try.func20, Try.ntmps20
  go_wp2_with (first | ((with_reducible refine gate_dst (N := 2) rfl ?_); refine zbox 2 #[.slice A0_0 l0_0.length c0_0, .slice A0_1 l0_1.length c0_1] 27 ?_; intro AK hg w6 hbox hb; have AA := zm (hbox); have AI := zge w hg zB; have AG := zge w hg zB; replace HB := zm (below_step zB hb); clear hb hbox hg) | ((with_reducible refine gate_dst (N := 3) rfl ?_); refine zbox 3 #[.slice A1_0 l1_0.length c1_0, .slice A1_1 l1_1.length c1_1] 27 ?_; intro AL hg w7 hbox hb; have AD := zm (hbox); have AJ := zge w hg zB; have AH := zge w hg zB; replace HB := zm (below_step zB hb); have AB := zlt hg (zb AA); have AC := zgt hg (zb AA); replace AA := zy AA hb; clear hb hbox hg; have Ag := AB.out; have Ah := AC.out; obtain ⟨Aa, Ab, Ac, Ad⟩ := zc2 AA; obtain ⟨AO, AP, AU, AV⟩ := zc2 AD) | ((with_reducible refine gate_callee (f := 68) rfl ?_); refine zg (some 9) #[.slice A0_0 l0_0.length c0_0, .slice A1_0 l1_0.length c1_0] Try.func68 ?_; (with_reducible refine (impl_Item.calls k _ _ l0_0 _ _ l1_0 true _ (zk (Kd.C_below HR0_0.out HB.out)) HC0_0.out (zk (Kd.C_below HR1_0.out HB.out)) HC1_0.out A3.out).mono ?_); rintro e w' ⟨rfl, ⟨nd, rfl⟩⟩; refine ⟨_, rfl, ?_⟩) | (go_at_call 69; (with_reducible refine (impl_Floor.calls k _ _ l0_1 _ _ l1_1 AF _ (zk (Kd.C_below HR0_1.out zB)) HC0_1.out (zk (Kd.C_below HR1_1.out zB)) HC1_1.out A5.out).mono ?_); rintro e w' ⟨rfl, ⟨nd, rfl⟩⟩))
  go_ret
  exact ⟨zE, zB⟩
 ·replace c4 := Bool.eq_false_iff.mpr c4; subst c4; rw [zff] at H; obtain rfl := Option.some.inj H; go_enter Try.func20, Try.ntmps20
  go_wp2_with (first | ((with_reducible refine gate_dst (N := 2) rfl ?_); refine zbox 2 #[.slice A0_0 l0_0.length c0_0, .slice A0_1 l0_1.length c0_1] 27 ?_; intro AK hg Ai hbox hb; have AA := zm (hbox); have AI := zge w hg zB; have AG := zge w hg zB; replace HB := zm (below_step zB hb); clear hb hbox hg) | ((with_reducible refine gate_dst (N := 3) rfl ?_); refine zbox 3 #[.slice A1_0 l1_0.length c1_0, .slice A1_1 l1_1.length c1_1] 27 ?_; intro AL hg Aj hbox hb; have AD := zm (hbox); have AJ := zge w hg zB; have AH := zge w hg zB; replace HB := zm (below_step zB hb); have AB := zlt hg (zb AA); have AC := zgt hg (zb AA); replace AA := zy AA hb; clear hb hbox hg; have Ae := AB.out; have Af := AC.out; obtain ⟨AQ, AR, AW, AX⟩ := zc2 AA; obtain ⟨AS, AT, AY, AZ⟩ := zc2 AD) | ((with_reducible refine gate_callee (f := 68) rfl ?_); refine zg (some 9) #[.slice A0_0 l0_0.length c0_0, .slice A1_0 l1_0.length c1_0] Try.func68 ?_; (with_reducible refine (impl_Item.calls k _ _ l0_0 _ _ l1_0 false _ (zk (Kd.C_below HR0_0.out HB.out)) HC0_0.out (zk (Kd.C_below HR1_0.out HB.out)) HC1_0.out A3.out).mono ?_); rintro e w' ⟨rfl, ⟨nd, rfl⟩⟩; refine ⟨_, rfl, ?_⟩))
  go_ret
  exact ⟨zE, zB⟩

/-! ### impl_StateLeq: function 18 -/
def impl_StateLeq.f (k : Nat) (l0_0 : List (S44)) (l0_1 : List (S58)) (l1_0 : List (S44)) (l1_1 : List (S58)) : Option (Bool) := (impl_StateJoin.f k l0_0 l0_1 l1_0 l1_1).bind fun bt224 => (if bt224.2.2 = true then ((impl_StateSame.f k bt224.1 bt224.2.1 l1_0 l1_1).bind fun t232 => (some t232)) else (some false))
theorem impl_StateLeq.mono : ∀ a0 a1 a2 a3 k, LeO (impl_StateLeq.f k a0 a1 a2 a3) (impl_StateLeq.f (k + 1) a0 a1 a2 a3) := by
 intro a0 a1 a2 a3 k
 unfold impl_StateLeq.f
 repeat' first | (with_reducible first | exact LeO.refl _ | exact LeO.none _ | refine LeO.ite ?_ ?_ | refine LeO.bind ?_ (fun _ => ?_) | apply impl_StateJoin.mono | apply impl_StateSame.mono) | apply impl_StateJoin.mono | apply impl_StateSame.mono | exact LeO.none _ | refine LeO.ite ?_ ?_ | refine LeO.bind ?_ (fun _ => ?_)
set_option maxHeartbeats 8000000 in
set_option maxRecDepth 100000 in
theorem impl_StateLeq.calls (k : Nat) (A0_0 : Option Addr) (c0_0 : Nat) (l0_0 : List (S44)) (A0_1 : Option Addr) (c0_1 : Nat) (l0_1 : List (S58)) (A1_0 : Option Addr) (c1_0 : Nat) (l1_0 : List (S44)) (A1_1 : Option Addr) (c1_1 : Nat) (l1_1 : List (S58)) (r : Bool) (w : World) (hr0_0 : Kd.C k44 w A0_0 l0_0.length l0_0) (hc0_0 : l0_0.length ≤ c0_0) (hr0_1 : Kd.C k58 w A0_1 l0_1.length l0_1) (hc0_1 : l0_1.length ≤ c0_1) (hr1_0 : Kd.C k44 w A1_0 l1_0.length l1_0) (hc1_0 : l1_0.length ≤ c1_0) (hr1_1 : Kd.C k58 w A1_1 l1_1.length l1_1) (hc1_1 : l1_1.length ≤ c1_1) (h : impl_StateLeq.f k l0_0 l0_1 l1_0 l1_1 = some r) :
  Calls Try.prog 18 #[.agg #[.slice A0_0 l0_0.length c0_0, .slice A0_1 l0_1.length c0_1], .agg #[.slice A1_0 l1_0.length c1_0, .slice A1_1 l1_1.length c1_1]] w fun e w' => e = .returned (.bool r) ∧ Below w.heap.size w w' := by
 have hu27 := Try.underlying27; have HR0_0 := zm hr0_0; have HC0_0 := zm hc0_0; clear hr0_0 hc0_0; have HR0_1 := zm hr0_1; have HC0_1 := zm hc0_1; clear hr0_1 hc0_1; have HR1_0 := zm hr1_0; have HC1_0 := zm hc1_0; clear hr1_0 hc1_0; have HR1_1 := zm hr1_1; have HC1_1 := zm hc1_1; clear hr1_1 hc1_1; have HB := zm (Below.refl w.heap.size w); have H : ((impl_StateJoin.f k l0_0 l0_1 l1_0 l1_1).bind fun AN => (if AN.2.2 = true then ((impl_StateSame.f k AN.1 AN.2.1 l1_0 l1_1).bind fun AO => (some AO)) else (some false))) = some r := h; clear h; replace H := Option.bind_eq_some_iff.mp H; obtain ⟨⟨AL, AM, Ae⟩, Aa, H⟩ := H; (try dsimp only at H); have A3 := zm Aa; clear Aa
 by_cases c4 : Ae = true
 ·subst c4; rw [if_pos rfl] at H; replace H := Option.bind_eq_some_iff.mp H; obtain ⟨AO, Ab, H⟩ := H; (try dsimp only at H); have A5 := zm Ab; clear Ab; obtain rfl := Option.some.inj H; go_enter Try.func18, Try.ntmps18
  go_wp2_with (first | ((with_reducible refine gate_dst (N := 2) rfl ?_); refine zbox 2 #[.slice A0_0 l0_0.length c0_0, .slice A0_1 l0_1.length c0_1] 27 ?_; intro AY hg w6 hbox hb; have AA := zm (hbox); have AV := zge w hg zB; have AS := zge w hg zB; replace HB := zm (below_step zB hb); clear hb hbox hg) | ((with_reducible refine gate_dst (N := 3) rfl ?_); refine zbox 3 #[.slice A1_0 l1_0.length c1_0, .slice A1_1 l1_1.length c1_1] 27 ?_; intro AZ hg w7 hbox hb; have AB := zm (hbox); have AW := zge w hg zB; have AT := zge w hg zB; replace HB := zm (below_step zB hb); have AH := zlt hg (zb AA); have AI := zgt hg (zb AA); replace AA := zy AA hb; clear hb hbox hg; have BR := AH.out; have BS := AI.out; obtain ⟨B7, BA, BB, BC⟩ := zc2 AA; obtain ⟨Af, Ag, Ar, As⟩ := zc2 AB) | ((with_reducible refine gate_callee (f := 19) rfl ?_); refine zg (some 10) #[.agg #[.slice A0_0 l0_0.length c0_0, .slice A0_1 l0_1.length c0_1], .agg #[.slice A1_0 l1_0.length c1_0, .slice A1_1 l1_1.length c1_1]] Try.func19 ?_; (with_reducible refine (impl_StateJoin.calls k _ _ l0_0 _ _ l0_1 _ _ l1_0 _ _ l1_1 AL AM true _ (zk (Kd.C_below HR0_0.out HB.out)) HC0_0.out (zk (Kd.C_below HR0_1.out HB.out)) HC0_1.out (zk (Kd.C_below HR1_0.out HB.out)) HC1_0.out (zk (Kd.C_below HR1_1.out HB.out)) HC1_1.out A3.out).mono ?_); rintro e BT ⟨v225, v228, rfl, ho0, ho1, hb⟩; refine ⟨_, rfl, ?_⟩; have AC := zm (Kd.R_lower ho0 (below_size zB)); have AD := zm (Kd.R_lower ho1 (below_size zB)); replace AA := zy AA hb; replace AB := zy AB hb; replace HB := zm (below_step zB hb); clear hb ho0 ho1) | ((with_reducible refine gate_dst (N := 5) rfl ?_); refine zbox 5 #[.slice none 0 0, .slice none 0 0] 27 ?_; intro AP hg BU hbox hb; replace AC := zw AC hb; replace AD := zw AD hb; have AG := zm (hbox); have AX := zge w hg zB; have AU := zge w hg zB; replace HB := zm (below_step zB hb); have AE := zlt hg (zb AA); have AJ := zgt hg (zb AA); replace AA := zy AA hb; have AF := zlt hg (zb AB); have AK := zgt hg (zb AB); replace AB := zy AB hb; clear hb hbox hg; obtain ⟨Ac, AQ, eo13⟩ := Kd.R_slice AC.out; subst eo13; have BD := AJ.out; have BI := AE.out; have BE := AK.out; have BJ := AF.out; obtain ⟨Ah, Ai, At, Au⟩ := zc2 AG; obtain ⟨Ad, AR, eo17⟩ := Kd.R_slice AD.out; subst eo17; obtain ⟨Aj, Ak, Av, Aw⟩ := zc2 AB) | (go_at_call 20; (with_reducible refine (impl_StateSame.calls k _ _ AL _ _ AM _ _ l1_0 _ _ l1_1 AO _ ?side1 ?side2 ?side3 ?side4 ?side5 HC1_0.out ?side7 HC1_1.out A5.out).mono ?_); (case side1 => refine (Kd.R_reads' (e := 44) (base := w.heap.size) (ok := fun k_ => True) (n := AL.length) (c := AQ) ?_).2.2; exact (zrs <| (Kd.R_mono (zfr (zfr (Kd.R_types AC.out AG.out (by decide)))) (fun _ h_ => h_.1)))); (case side2 => exact (Kd.R_reads' AC.out).2.1); (case side3 => refine (Kd.R_reads' (e := 58) (base := w.heap.size) (ok := fun k_ => True) (n := AM.length) (c := AR) ?_).2.2; exact (zrs <| (Kd.R_mono (zfr (zfr (Kd.R_types AD.out AG.out (by decide)))) (fun _ h_ => h_.1)))); (case side4 => exact (Kd.R_reads' AD.out).2.1); (case side5 => exact Kd.C_below HR1_0.out zB); (case side7 => exact Kd.C_below HR1_1.out zB); rintro e BV ⟨rfl, hb⟩; replace AC := zm (Kd.R_below (zrs <| (Kd.R_mono (zfr (zfr (Kd.R_types AC.out AG.out (by decide)))) (fun _ h_ => h_.1))) hb); replace AD := zm (Kd.R_below (zrs <| (Kd.R_mono (zfr (zfr (Kd.R_types AD.out AG.out (by decide)))) (fun _ h_ => h_.1))) hb); replace AA := zyb hb (zfar (zfar (zb AA) AE) AE); replace AB := zyb hb (zfar (zfar (zb AB) AF) AF); replace AG := zm (blk_below (g := AP) (o := .cells #[.slice Ac AL.length AQ, .slice Ad AM.length AR] 27 (0, 0)) (zput (zput (zb AG) 0) 1) hb); replace HB := zm (below_step zB hb); clear hb))
  go_ret
  exact ⟨zE, zB⟩
 ·replace c4 := Bool.eq_false_iff.mpr c4; subst c4; rw [zff] at H; obtain rfl := Option.some.inj H; go_enter Try.func18, Try.ntmps18
  go_wp2_with (first | ((with_reducible refine gate_dst (N := 2) rfl ?_); refine zbox 2 #[.slice A0_0 l0_0.length c0_0, .slice A0_1 l0_1.length c0_1] 27 ?_; intro AY hg BW hbox hb; have AA := zm (hbox); have AV := zge w hg zB; have AS := zge w hg zB; replace HB := zm (below_step zB hb); clear hb hbox hg) | ((with_reducible refine gate_dst (N := 3) rfl ?_); refine zbox 3 #[.slice A1_0 l1_0.length c1_0, .slice A1_1 l1_1.length c1_1] 27 ?_; intro AZ hg BX hbox hb; have AB := zm (hbox); have AW := zge w hg zB; have AT := zge w hg zB; replace HB := zm (below_step zB hb); have AH := zlt hg (zb AA); have AI := zgt hg (zb AA); replace AA := zy AA hb; clear hb hbox hg; have BF := AH.out; have BK := AI.out; obtain ⟨Al, Am, Ax, Ay⟩ := zc2 AA; obtain ⟨An, Ao, Az, B0⟩ := zc2 AB) | ((with_reducible refine gate_callee (f := 19) rfl ?_); refine zg (some 10) #[.agg #[.slice A0_0 l0_0.length c0_0, .slice A0_1 l0_1.length c0_1], .agg #[.slice A1_0 l1_0.length c1_0, .slice A1_1 l1_1.length c1_1]] Try.func19 ?_; (with_reducible refine (impl_StateJoin.calls k _ _ l0_0 _ _ l0_1 _ _ l1_0 _ _ l1_1 AL AM false _ (zk (Kd.C_below HR0_0.out HB.out)) HC0_0.out (zk (Kd.C_below HR0_1.out HB.out)) HC0_1.out (zk (Kd.C_below HR1_0.out HB.out)) HC1_0.out (zk (Kd.C_below HR1_1.out HB.out)) HC1_1.out A3.out).mono ?_); rintro e BY ⟨v225, v228, rfl, ho0, ho1, hb⟩; refine ⟨_, rfl, ?_⟩; have AC := zm (Kd.R_lower ho0 (below_size zB)); have AD := zm (Kd.R_lower ho1 (below_size zB)); replace AA := zy AA hb; replace AB := zy AB hb; replace HB := zm (below_step zB hb); clear hb ho0 ho1) | ((with_reducible refine gate_dst (N := 5) rfl ?_); refine zbox 5 #[.slice none 0 0, .slice none 0 0] 27 ?_; intro AP hg BZ hbox hb; replace AC := zw AC hb; replace AD := zw AD hb; have AG := zm (hbox); have AX := zge w hg zB; have AU := zge w hg zB; replace HB := zm (below_step zB hb); have AE := zlt hg (zb AA); have AJ := zgt hg (zb AA); replace AA := zy AA hb; have AF := zlt hg (zb AB); have AK := zgt hg (zb AB); replace AB := zy AB hb; clear hb hbox hg; obtain ⟨BN, BP, eo27⟩ := Kd.R_slice AC.out; subst eo27; have BG := AJ.out; have BL := AE.out; have BH := AK.out; have BM := AF.out; obtain ⟨Ap, Aq, B2, B3⟩ := zc2 AG; obtain ⟨BO, BQ, eo31⟩ := Kd.R_slice AD.out; subst eo31))
  go_ret
  exact ⟨zE, zB⟩

/-! ### spec_EntryOf: function 61 -/
def spec_EntryOf.l0 : Nat → Int → Int → List (S44) → List (S58) → Option (Int × Int × Int × Int × ByteArray × Bool)
 | 0, _, _, _, _ => none
 | k + 1, x1, x6, x234000, x234001 => if x6 < (x234000.length : Int) then (if 0 ≤ x6 then (if ((rd_T44 x234000 x6).f0) = x1 then (some ((rd_T44 x234000 x6).f1.f0, (rd_T44 x234000 x6).f1.f1, (rd_T44 x234000 x6).f1.f2, (rd_T44 x234000 x6).f1.f3, (rd_T44 x234000 x6).f1.f4, true)) else (spec_EntryOf.l0 k x1 (wrap64 (x6 + 1)) x234000 x234001)) else (none)) else (some (0, 0, 0, 0, (⟨#[]⟩ : ByteArray), false))
def spec_EntryOf.f (k : Nat) (l0_0 : List (S44)) (l0_1 : List (S58)) (a1 : Int) : Option (Int × Int × Int × Int × ByteArray × Bool) := spec_EntryOf.l0 k a1 0 l0_0 l0_1
theorem spec_EntryOf.mono_l : ∀ k, (∀ y0 y1 y2 y3, LeO (spec_EntryOf.l0 k y0 y1 y2 y3) (spec_EntryOf.l0 (k + 1) y0 y1 y2 y3))
 | 0 => fun _ _ _ _ r h => by simp [spec_EntryOf.l0] at h
 | k + 1 => by
  have ih0 := spec_EntryOf.mono_l k
  ·intro y0 y1 y2 y3
   unfold spec_EntryOf.l0
   repeat' first | (with_reducible first | exact LeO.refl _ | exact LeO.none _ | refine LeO.ite ?_ ?_ | refine LeO.bind ?_ (fun _ => ?_) | apply ih0) | apply ih0 | exact LeO.none _ | refine LeO.ite ?_ ?_ | refine LeO.bind ?_ (fun _ => ?_)
theorem spec_EntryOf.mono : ∀ a0 a1 a2 k, LeO (spec_EntryOf.f k a0 a1 a2) (spec_EntryOf.f (k + 1) a0 a1 a2) := by
 intro a0 a1 a2 k; have ih0 := spec_EntryOf.mono_l k
 unfold spec_EntryOf.f
 repeat' first | (with_reducible first | exact LeO.refl _ | exact LeO.none _ | refine LeO.ite ?_ ?_ | refine LeO.bind ?_ (fun _ => ?_) | apply ih0) | apply ih0 | exact LeO.none _ | refine LeO.ite ?_ ?_ | refine LeO.bind ?_ (fun _ => ?_)
set_option maxHeartbeats 8000000 in
set_option maxRecDepth 100000 in
theorem spec_EntryOf.calls (k : Nat) (A0_0 : Option Addr) (c0_0 : Nat) (l0_0 : List (S44)) (A0_1 : Option Addr) (c0_1 : Nat) (l0_1 : List (S58)) (a1 : Int) (r1 : Int) (r2 : Int) (r3 : Int) (r4 : Int) (r5 : ByteArray) (r6 : Bool) (w : World) (hr0_0 : Kd.C k44 w A0_0 l0_0.length l0_0) (hc0_0 : l0_0.length ≤ c0_0) (hr0_1 : Kd.C k58 w A0_1 l0_1.length l0_1) (hc0_1 : l0_1.length ≤ c0_1) (h : spec_EntryOf.f k l0_0 l0_1 a1 = some (r1, r2, r3, r4, r5, r6)) :
  Calls Try.prog 61 #[.agg #[.slice A0_0 l0_0.length c0_0, .slice A0_1 l0_1.length c0_1], .int .i64 a1] w fun e w' => e = .returned (.tuple #[.agg #[.int .i64 r1, .int .i64 r2, .int .i64 r3, .int .i64 r4, .string r5], .bool r6]) ∧ Below w.heap.size w w' := by
 have hu27 := Try.underlying27; have hu36 := Try.underlying36; have HR0_0 := zm hr0_0; have HC0_0 := zm hc0_0; clear hr0_0 hc0_0; have HR0_1 := zm hr0_1; have HC0_1 := zm hc0_1; clear hr0_1 hc0_1; have HB := zm (Below.refl w.heap.size w); have H : (spec_EntryOf.l0 k a1 0 l0_0 l0_1) = some (r1, r2, r3, r4, r5, r6) := h; clear h
 have H' := zm H
 clear H; go_enter Try.func61, Try.ntmps61
 go_wp2_with (first | ((with_reducible refine gate_dst (N := 2) rfl ?_); refine zbox 2 #[.slice A0_0 l0_0.length c0_0, .slice A0_1 l0_1.length c0_1] 27 ?_; intro AL hg w3 hbox hb; have AB := zm (hbox); have Ay := zge w hg zB; have Aw := zge w hg zB; replace HB := zm (below_step zB hb); clear hb hbox hg) | ((with_reducible refine gate_dst (N := 4) rfl ?_); refine zbox 4 #[.int .i64 0, .int .i64 0, .int .i64 0, .int .i64 0, .string (⟨#[]⟩ : ByteArray)] 36 ?_; intro AK hg w4 hbox hb; have AC := zm (hbox); have Az := zge w hg zB; have Ax := zge w hg zB; replace HB := zm (below_step zB hb); have AD := zlt hg (zb AB); have AE := zgt hg (zb AB); replace AB := zy AB hb; clear hb hbox hg))
 go_loopg [6] k (fun kq v6 w' => ∃ (AA : Int) (AF : Int) (AG : Int) (AH : Int) (AI : Int) (AJ : ByteArray), v6 = .int .i64 AA ∧ Aside0 (spec_EntryOf.l0 kq a1 AA l0_0 l0_1 = some (r1, r2, r3, r4, r5, r6)) ∧ Aside0 (kq ≤ k) ∧ Aside0 (w'.heap[AL]? = some (.cells #[(.slice A0_0 l0_0.length c0_0), (.slice A0_1 l0_1.length c0_1)] 27 (0, 0))) ∧ Aside0 (w'.heap[AK]? = some (.cells #[.int .i64 AF, .int .i64 AG, .int .i64 AH, .int .i64 AI, .string AJ] 36 (0, 0))) ∧ Aside0 (Below w.heap.size w w'))
 case atStart => exact ⟨(0), (0), (0), (0), (0), ((⟨#[]⟩ : ByteArray)), zF, H', ⟨Nat.le_refl _⟩, ⟨zb AB⟩, ⟨zb AC⟩, ⟨zB⟩⟩
 case round =>
  clear H'; obtain ⟨AA, AF, AG, AH, AI, AJ, rfl, HA, AM, AB, AC, HB⟩ := hrel
  cases gk with
  | zero => exact absurd HA.out (by simp [spec_EntryOf.l0])
  | succ k1 =>
   have H := HA.out; clear HA; simp only [spec_EntryOf.l0] at H
   by_cases c5 : AA < (l0_0.length : Int)
   ·rw [if_pos c5] at H; have AN : decide (AA < (l0_0.length : Int)) = true := decide_eq_true c5; clear c5
    by_cases c6 : 0 ≤ AA
    ·rw [if_pos c6] at H; have BA : decide (0 ≤ AA) = true := decide_eq_true c6; clear c6
     by_cases c7 : ((rd_T44 l0_0 AA).f0) = a1
     ·rw [if_pos c7] at H; have AO : (((rd_T44 l0_0 AA).f0) == a1) = true := beq_iff_eq.mpr c7; have AP : (((rd_T44 l0_0 AA).f0) != a1) = false := bne_eq_false_iff_eq.mpr c7; clear c7; simp only [Option.some.injEq, Prod.mk.injEq] at H; obtain ⟨rfl, rfl, rfl, rfl, rfl, rfl⟩ := H; have BB := AD.out; have BC := AE.out; obtain ⟨As, At, Au, Av⟩ := zc2 AB; have p235 : 0 ≤ (AA : Int) := zd; have q235 : AA < (l0_0.length : Int) := zd; obtain ⟨ad235, e235, hx235_0, hx235_1, hx235_2, hx235_3, hx235_4, hx235_5⟩ := at_T44 (Kd.C_below HR0_0.out HB.out) AA p235 q235; cases e235; replace p235 := eq_true p235; replace q235 := eq_true q235; have p236 : 0 ≤ (AA : Int) := zd; have q236 : AA < (l0_0.length : Int) := zd; obtain ⟨ad236, e236, hx236_0, hx236_1, hx236_2, hx236_3, hx236_4, hx236_5⟩ := at_T44 (Kd.C_below HR0_0.out HB.out) AA p236 q236
      obtain rfl : ad235 = ad236 := (by injection e236)
      replace p236 := eq_true p236; replace q236 := eq_true q236; obtain ⟨AQ, AR, AS, AT, AU, Ae, Af, Ag, Ah, Ai⟩ := zc5 AC
      go_wp2
      refine bodyPost_ret (results_ct rfl _ _ AK 36 #[.int .i64 ((rd_T44 l0_0 AA).f1.f0), .int .i64 ((rd_T44 l0_0 AA).f1.f1), .int .i64 ((rd_T44 l0_0 AA).f1.f2), .int .i64 ((rd_T44 l0_0 AA).f1.f3), .string ((rd_T44 l0_0 AA).f1.f4)] (0, 0) _ rfl (zput (zput (zput (zput (zput (zb AC) 0) 1) 2) 3) 4) Try.underlying36 rfl (by kernel_rfl)) rfl ?_
      exact ⟨zE, zB⟩
     ·rw [if_neg c7] at H; have AO : (((rd_T44 l0_0 AA).f0) == a1) = false := beq_eq_false_iff_ne.mpr c7; have AP : (((rd_T44 l0_0 AA).f0) != a1) = true := bne_iff_ne.mpr c7
      have H' := zm H
      clear H; have B0 := AD.out; have B3 := AE.out; obtain ⟨AV, AW, Aj, Ak⟩ := zc2 AB; have p235 : 0 ≤ (AA : Int) := zd; have q235 : AA < (l0_0.length : Int) := zd; obtain ⟨ad235, e235, hx235_0, hx235_1, hx235_2, hx235_3, hx235_4, hx235_5⟩ := at_T44 (Kd.C_below HR0_0.out HB.out) AA p235 q235; cases e235; replace p235 := eq_true p235; replace q235 := eq_true q235
      go_wp2
      go_roundg k1
      case measure => have := AM.out; omega
      case rel => exact ⟨(wrap64 (AA + 1)), (AF), (AG), (AH), (AI), (AJ), zF, H', ⟨by have := AM.out; omega⟩, ⟨zb AB⟩, ⟨zb AC⟩, ⟨zB⟩⟩
    ·rw [if_neg c6] at H
     exact absurd H (by simp)
   ·rw [if_neg c5] at H; have AN : decide (AA < (l0_0.length : Int)) = false := decide_eq_false c5; clear c5; simp only [Option.some.injEq, Prod.mk.injEq] at H; obtain ⟨rfl, rfl, rfl, rfl, rfl, rfl⟩ := H; have B2 := AD.out; have B7 := AE.out; obtain ⟨AX, AY, Al, Am⟩ := zc2 AB; obtain ⟨AZ, Aa, Ab, Ac, Ad, An, Ao, Ap, Aq, Ar⟩ := zc5 AC
    go_wp2
    refine bodyPost_ret (results_ct rfl _ _ AK 36 #[.int .i64 0, .int .i64 0, .int .i64 0, .int .i64 0, .string (⟨#[]⟩ : ByteArray)] (0, 0) _ rfl (zput (zput (zput (zput (zput (zb AC) 0) 1) 2) 3) 4) Try.underlying36 rfl (by kernel_rfl)) rfl ?_
    exact ⟨zE, zB⟩

/-! ### spec_l1Bit: function 102 -/
def spec_l1Bit.f (a0 : Bool) : Option (Int) := if a0 = true then (some 1) else (some 0)
set_option maxHeartbeats 8000000 in
set_option maxRecDepth 100000 in
theorem spec_l1Bit.calls (a0 : Bool) (r : Int) (w : World) (h : spec_l1Bit.f a0 = some r) :
  Calls Try.prog 102 #[.bool a0] w fun e w' => e = .returned (.int .i64 r) ∧ Drawn0 w w' := by
 have H : (if a0 = true then (some 1) else (some 0)) = some r := h; clear h
 by_cases c2 : a0 = true
 ·subst c2; rw [if_pos rfl] at H; obtain rfl := Option.some.inj H; go_enter Try.func102, Try.ntmps102
  go_wp2
  go_ret
  exact ⟨zF, zD⟩
 ·replace c2 := Bool.eq_false_iff.mpr c2; subst c2; rw [zff] at H; obtain rfl := Option.some.inj H; go_enter Try.func102, Try.ntmps102
  go_wp2
  go_ret
  exact ⟨zF, zD⟩

/-! ### spec_l2Cmp: function 101 -/
def spec_l2Cmp.f (a0 : Int) (a1 : Int) : Option (Int) := if a0 < a1 then (some (-1)) else ((spec_l1Bit.f (decide (a0 > a1))).bind fun t237 => (some t237))
set_option maxHeartbeats 8000000 in
set_option maxRecDepth 100000 in
theorem spec_l2Cmp.calls (a0 : Int) (a1 : Int) (r : Int) (w : World) (h : spec_l2Cmp.f a0 a1 = some r) :
  Calls Try.prog 101 #[.int .i64 a0, .int .i64 a1] w fun e w' => e = .returned (.int .i64 r) ∧ Drawn0 w w' := by
 have H : (if a0 < a1 then (some (-1)) else ((spec_l1Bit.f (decide (a0 > a1))).bind fun AA => (some AA))) = some r := h; clear h
 by_cases c3 : a0 < a1
 ·rw [if_pos c3] at H; have AC : decide (a0 < a1) = true := decide_eq_true c3; clear c3; obtain rfl := Option.some.inj H; go_enter Try.func101, Try.ntmps101
  go_wp2
  go_ret
  exact ⟨zF, zD⟩
 ·rw [if_neg c3] at H; have AC : decide (a0 < a1) = false := decide_eq_false c3; clear c3; replace H := Option.bind_eq_some_iff.mp H; obtain ⟨AA, AB, H⟩ := H; (try dsimp only at H); have A4 := zm AB; clear AB; obtain rfl := Option.some.inj H; go_enter Try.func101, Try.ntmps101
  go_wp2_with (first | ((with_reducible refine gate_callee (f := 102) rfl ?_); refine zg (some 11) #[.bool (decide (a0 > a1))] Try.func102 ?_; (with_reducible refine (spec_l1Bit.calls (decide (a0 > a1)) AA _ A4.out).mono ?_); rintro e w' ⟨rfl, ⟨nd, rfl⟩⟩; refine ⟨_, rfl, ?_⟩))
  go_ret
  exact ⟨zF, zD⟩

/-! ### spec_EntryCmp: function 62 -/
def spec_EntryCmp.l0 : Nat → List Int → Int → Int → Int → Int → Int → ByteArray → Int → Int → Int → Int → ByteArray → Option (Int)
 | 0, _, _, _, _, _, _, _, _, _, _, _, _ => none
 | k + 1, x5, x6, x239000, x239001, x239002, x239003, x239004, x240000, x240001, x240002, x240003, x240004 => if x6 < (x5.length : Int) then (if 0 ≤ x6 then (if (rd x5 x6) = 0 then (spec_EntryCmp.l0 k x5 (wrap64 (x6 + 1)) x239000 x239001 x239002 x239003 x239004 x240000 x240001 x240002 x240003 x240004) else (some (rd x5 x6))) else (none)) else (if (Op.bytesLess x239004.toList x240004.toList) = true then (some (-1)) else ((spec_l1Bit.f (!(x239004.toList == x240004.toList))).bind fun t249 => (some t249)))
def spec_EntryCmp.f (k : Nat) (a0_0 : Int) (a0_1 : Int) (a0_2 : Int) (a0_3 : Int) (a0_4 : ByteArray) (a1_0 : Int) (a1_1 : Int) (a1_2 : Int) (a1_3 : Int) (a1_4 : ByteArray) : Option (Int) := (spec_l2Cmp.f a0_0 a1_0).bind fun t240 => ((spec_l2Cmp.f a0_1 a1_1).bind fun t241 => ((spec_l2Cmp.f a0_2 a1_2).bind fun t242 => ((spec_l2Cmp.f a0_3 a1_3).bind fun t243 => (spec_EntryCmp.l0 k (([t240, t241, t242, t243] : List Int)) 0 a0_0 a0_1 a0_2 a0_3 a0_4 a1_0 a1_1 a1_2 a1_3 a1_4))))
theorem spec_EntryCmp.mono_l : ∀ k, (∀ y0 y1 y2 y3 y4 y5 y6 y7 y8 y9 y10 y11, LeO (spec_EntryCmp.l0 k y0 y1 y2 y3 y4 y5 y6 y7 y8 y9 y10 y11) (spec_EntryCmp.l0 (k + 1) y0 y1 y2 y3 y4 y5 y6 y7 y8 y9 y10 y11))
 | 0 => fun _ _ _ _ _ _ _ _ _ _ _ _ r h => by simp [spec_EntryCmp.l0] at h
 | k + 1 => by
  have ih0 := spec_EntryCmp.mono_l k
  ·intro y0 y1 y2 y3 y4 y5 y6 y7 y8 y9 y10 y11
   unfold spec_EntryCmp.l0
   repeat' first | (with_reducible first | exact LeO.refl _ | exact LeO.none _ | refine LeO.ite ?_ ?_ | refine LeO.bind ?_ (fun _ => ?_) | apply ih0) | apply ih0 | exact LeO.none _ | refine LeO.ite ?_ ?_ | refine LeO.bind ?_ (fun _ => ?_)
theorem spec_EntryCmp.mono : ∀ a0 a1 a2 a3 a4 a5 a6 a7 a8 a9 k, LeO (spec_EntryCmp.f k a0 a1 a2 a3 a4 a5 a6 a7 a8 a9) (spec_EntryCmp.f (k + 1) a0 a1 a2 a3 a4 a5 a6 a7 a8 a9) := by
 intro a0 a1 a2 a3 a4 a5 a6 a7 a8 a9 k; have ih0 := spec_EntryCmp.mono_l k
 unfold spec_EntryCmp.f
 repeat' first | (with_reducible first | exact LeO.refl _ | exact LeO.none _ | refine LeO.ite ?_ ?_ | refine LeO.bind ?_ (fun _ => ?_) | apply ih0) | apply ih0 | exact LeO.none _ | refine LeO.ite ?_ ?_ | refine LeO.bind ?_ (fun _ => ?_)
def spec_EntryCmp.T1 : Bool × List (List Nat × List Nat) := (true, [([], []), ([0], [0]), ([], []), ([2], [2]), ([1, 3], [1, 3]), ([], []), ([5], [5]), ([], []), ([7], [7]), ([6, 8, 4], [6, 8]), ([], []), ([10], [10]), ([], []), ([12], [12]), ([11, 13, 9], [11, 13]), ([], []), ([15], [15]), ([], []), ([17], [17]), ([16, 18, 14], [16, 18]), ([4, 9, 14, 19], [4, 9, 14, 19]), ([20, 19, 0, 1, 2, 3, 4, 5, 6, 7, 8, 9, 10, 11, 12, 13, 14, 15, 16, 17, 18, 19, 20], [20])])
def spec_EntryCmp.B1 : List Nat := [0, 1, 0, 4, 15, 0, 32, 0, 128, 511, 0, 1024, 0, 4096, 16383, 0, 32768, 0, 131072, 524287, 1048575, 2097151]
theorem spec_EntryCmp.tab1 : rtab .any (opsOf Try.f62 1) = spec_EntryCmp.T1 := by kernel_rfl
theorem spec_EntryCmp.bits1 : waitsOk spec_EntryCmp.T1.2 spec_EntryCmp.B1 = true := by kernel_rfl
set_option maxHeartbeats 8000000 in
set_option maxRecDepth 100000 in
theorem spec_EntryCmp.calls (k : Nat) (a0_0 : Int) (a0_1 : Int) (a0_2 : Int) (a0_3 : Int) (a0_4 : ByteArray) (a1_0 : Int) (a1_1 : Int) (a1_2 : Int) (a1_3 : Int) (a1_4 : ByteArray) (r : Int) (w : World) (h : spec_EntryCmp.f k a0_0 a0_1 a0_2 a0_3 a0_4 a1_0 a1_1 a1_2 a1_3 a1_4 = some r) :
  Calls Try.prog 62 #[.agg #[.int .i64 a0_0, .int .i64 a0_1, .int .i64 a0_2, .int .i64 a0_3, .string a0_4], .agg #[.int .i64 a1_0, .int .i64 a1_1, .int .i64 a1_2, .int .i64 a1_3, .string a1_4]] w fun e w' => e = .returned (.int .i64 r) ∧ Below w.heap.size w w' := by
 have hu36 := Try.underlying36; have HB := zm (Below.refl w.heap.size w); have H : ((spec_l2Cmp.f a0_0 a1_0).bind fun AE => ((spec_l2Cmp.f a0_1 a1_1).bind fun AF => ((spec_l2Cmp.f a0_2 a1_2).bind fun AG => ((spec_l2Cmp.f a0_3 a1_3).bind fun AH => (spec_EntryCmp.l0 k (([AE, AF, AG, AH] : List Int)) 0 a0_0 a0_1 a0_2 a0_3 a0_4 a1_0 a1_1 a1_2 a1_3 a1_4))))) = some r := h; clear h; replace H := Option.bind_eq_some_iff.mp H; obtain ⟨AE, AW, H⟩ := H; (try dsimp only at H); have A3 := zm AW; clear AW; replace H := Option.bind_eq_some_iff.mp H; obtain ⟨AF, AX, H⟩ := H; (try dsimp only at H); have A4 := zm AX; clear AX; replace H := Option.bind_eq_some_iff.mp H; obtain ⟨AG, AY, H⟩ := H; (try dsimp only at H); have A5 := zm AY; clear AY; replace H := Option.bind_eq_some_iff.mp H; obtain ⟨AH, AZ, H⟩ := H; (try dsimp only at H); have A6 := zm AZ; clear AZ
 obtain ⟨y244, hy244⟩ : ∃ y_ : List Int, y_ = (([AE, AF, AG, AH] : List Int)) := ⟨_, rfl⟩
 replace H : (spec_EntryCmp.l0 k y244 0 a0_0 a0_1 a0_2 a0_3 a0_4 a1_0 a1_1 a1_2 a1_3 a1_4) = some r := by first | (rw [hy244]; with_reducible exact H) | (have H2_ := (Option.bind_some _ _).symm.trans H; rw [hy244]; with_reducible exact H2_) | (have H2_ := (Option.bind_some _ _).symm.trans H; with_reducible exact H2_) | with_reducible exact H | (rw [hy244]; exact H) | exact H
 have Ny244 := zm hy244; clear hy244
 have H' := zm H
 clear H; go_enter Try.func62, Try.ntmps62
 try go_wp2_with (first | ((with_reducible refine gate_dst (N := 2) rfl ?_); refine zbox 2 #[.int .i64 a0_0, .int .i64 a0_1, .int .i64 a0_2, .int .i64 a0_3, .string a0_4] 36 ?_; intro AI hg w7 hbox hb; have AB := zm (hbox); have BP := zge w hg zB; have BN := zge w hg zB; replace HB := zm (below_step zB hb); clear hb hbox hg) | ((with_reducible refine gate_dst (N := 3) rfl ?_); refine zbox 3 #[.int .i64 a1_0, .int .i64 a1_1, .int .i64 a1_2, .int .i64 a1_3, .string a1_4] 36 ?_; intro AJ hg w8 hbox hb; have AC := zm (hbox); have BQ := zge w hg zB; have BO := zge w hg zB; replace HB := zm (below_step zB hb); have AK := zlt hg (zb AB); have AL := zgt hg (zb AB); replace AB := zy AB hb; clear hb hbox hg))
 replace AB := zq AB; replace AC := zq AC; replace HB := zm (below_drew1 HB.out)
 refine start_ (n := 22) (S := fun w' => w'.cell? ⟨AI, 0, none⟩ = some (.int .i64 a0_0) ∧ w'.cell? ⟨AI, 1, none⟩ = some (.int .i64 a0_1) ∧ w'.cell? ⟨AI, 2, none⟩ = some (.int .i64 a0_2) ∧ w'.cell? ⟨AI, 3, none⟩ = some (.int .i64 a0_3) ∧ w'.cell? ⟨AI, 4, none⟩ = some (.string a0_4) ∧ w'.cell? ⟨AJ, 0, none⟩ = some (.int .i64 a1_0) ∧ w'.cell? ⟨AJ, 1, none⟩ = some (.int .i64 a1_1) ∧ w'.cell? ⟨AJ, 2, none⟩ = some (.int .i64 a1_2) ∧ w'.cell? ⟨AJ, 3, none⟩ = some (.int .i64 a1_3) ∧ w'.cell? ⟨AJ, 4, none⟩ = some (.string a1_4)) (ds := []) (zl 22 0) (by kernel_rfl) rfl rfl zS (fun hHeld => ?_); refine with_tabW spec_EntryCmp.tab1 spec_EntryCmp.bits1 (fun HT_ HW_ => ?_)
 generalize w8.drew = w9 at AB AC HB hHeld ⊢
 refine zu 0 7 22 1 ?_
 refine zu 2 9 22 5 ?_
 refine zu 5 12 22 37 ?_
 refine zu 7 14 22 165 ?_
 refine zu 10 17 22 1189 ?_
 refine zu 12 19 22 5285 ?_
 refine zu 15 22 22 38053 ?_
 refine zu 17 24 22 169125 ?_
 refine zv 1 8 22 169127 ?_
 refine zv 3 10 22 169135 ?_
 refine zv 6 13 22 169199 ?_
 refine zv 8 15 22 169455 ?_
 refine zv 11 18 22 171503 ?_
 refine zv 13 20 22 179695 ?_
 refine zv 16 23 22 245231 ?_
 refine zv 18 25 22 507375 ?_
 refine zo 4 (some 11) (zl 22 507391) (fun K hK => ?_); refine zgo #[.int .i64 a0_0, .int .i64 a1_0] Try.func101 ?_; (with_reducible refine (spec_l2Cmp.calls a0_0 a1_0 AE _ A3.out).mono ?_); rintro e w' ⟨rfl, ⟨nd, rfl⟩⟩; refine ⟨_, rfl, ?_⟩; refine hK.out _ _ zS (fun hHeld => ?_); clear hK K; refine zn ?_; refine zo 9 (some 16) (zl 22 507903) (fun K hK => ?_); refine zgo #[.int .i64 a0_1, .int .i64 a1_1] Try.func101 ?_; (with_reducible refine (spec_l2Cmp.calls a0_1 a1_1 AF _ A4.out).mono ?_); rintro e w' ⟨rfl, ⟨nd, rfl⟩⟩; refine ⟨_, rfl, ?_⟩; refine hK.out _ _ zS (fun hHeld => ?_); clear hK K; refine zn ?_; refine zo 14 (some 21) (zl 22 524287) (fun K hK => ?_); refine zgo #[.int .i64 a0_2, .int .i64 a1_2] Try.func101 ?_; (with_reducible refine (spec_l2Cmp.calls a0_2 a1_2 AG _ A5.out).mono ?_); rintro e w' ⟨rfl, ⟨nd, rfl⟩⟩; refine ⟨_, rfl, ?_⟩; refine hK.out _ _ zS (fun hHeld => ?_); clear hK K; refine zn ?_; refine zo 19 (some 26) (zl 22 1048575) (fun K hK => ?_); refine zgo #[.int .i64 a0_3, .int .i64 a1_3] Try.func101 ?_; (with_reducible refine (spec_l2Cmp.calls a0_3 a1_3 AH _ A6.out).mono ?_); rintro e w' ⟨rfl, ⟨nd, rfl⟩⟩; refine ⟨_, rfl, ?_⟩; refine hK.out _ _ zS (fun hHeld => ?_); clear hK K; refine zn ?_; refine zo 20 (some 27) (zl 22 2097151) (fun K hK => ?_)
 refine Kd.R_lit_step (Kd.int .i64) _ 3 ?hg (N := 27) ?hd (xs := ([AE, AF, AG, AH] : List Int)) (inner := [.int .i64 AE, .int .i64 AF, .int .i64 AG, .int .i64 AH]) (ok := fun _ => True) (okp := fun _ => True) ?hr ?hp (fun _ hk => hk) trivial (Below.refl _ _) (Nat.le_refl _) (by simp) ?_; (case hd => rfl); (case hg => rfl); (case hr => first | (go_simp; done) | (go_simp; rfl)); (case hp => exact (Reps.one (show Kd.M (Kd.int .i64) _ _ _ AE [.int .i64 AE] from rfl) (Reps.one (show Kd.M (Kd.int .i64) _ _ _ AF [.int .i64 AF] from rfl) (Reps.one (show Kd.M (Kd.int .i64) _ _ _ AG [.int .i64 AG] from rfl) (Reps.one (show Kd.M (Kd.int .i64) _ _ _ AH [.int .i64 AH] from rfl) (Reps.none _ _))))))
 intro v245 Be ho11 hb hg_ hnew_; clear hg_ hnew_
 (first | rw [← Ny244.out] at ho11 | (simp only [Int.reduceToNat] at ho11; rw [← Ny244.out] at ho11))
 have AR := zm (Kd.R_lower ho11 (below_size zB)); replace AB := zy AB hb; replace AC := zy AC hb; replace HB := zm (below_step zB hb); clear hb ho11; refine hK.out _ _ zS (fun hHeld => ?_); clear hK K; refine zn (N := some 27) ?_
 refine zu 21 5 22 4194303 ?_
 refine done_ (done_of HT_.out (by kernel_rfl)) ?_
 try go_wp2
 go_loopg [6] k (fun kq v6 w' => ∃ (AA : Int), v6 = .int .i64 AA ∧ Aside0 (spec_EntryCmp.l0 kq y244 AA a0_0 a0_1 a0_2 a0_3 a0_4 a1_0 a1_1 a1_2 a1_3 a1_4 = some r) ∧ Aside0 (kq ≤ k) ∧ Aside0 (Kd.R (Kd.int .i64) 3 w' w.heap.size (fun _ => True) v245 y244) ∧ Aside0 (w'.heap[AI]? = some (.cells #[.int .i64 a0_0, .int .i64 a0_1, .int .i64 a0_2, .int .i64 a0_3, .string a0_4] 36 (0, 0))) ∧ Aside0 (w'.heap[AJ]? = some (.cells #[.int .i64 a1_0, .int .i64 a1_1, .int .i64 a1_2, .int .i64 a1_3, .string a1_4] 36 (0, 0))) ∧ Aside0 (Below w.heap.size w w'))
 case atStart => exact ⟨(0), zF, H', ⟨Nat.le_refl _⟩, ⟨zr AR⟩, ⟨zb AB⟩, ⟨zb AC⟩, ⟨zB⟩⟩
 case round =>
  clear H'; obtain ⟨AA, rfl, HA, Aa, AD, AB, AC, HB⟩ := hrel
  cases gk with
  | zero => exact absurd HA.out (by simp [spec_EntryCmp.l0])
  | succ k1 =>
   have H := HA.out; clear HA; simp only [spec_EntryCmp.l0] at H
   by_cases AN : AA < (y244.length : Int)
   ·rw [if_pos AN] at H; have AS : decide (AA < (y244.length : Int)) = true := decide_eq_true AN; clear AN
    by_cases AP : 0 ≤ AA
    ·rw [if_pos AP] at H; have BR : decide (0 ≤ AA) = true := decide_eq_true AP; clear AP
     by_cases AM : (rd y244 AA) = 0
     ·rw [if_pos AM] at H; have AT : ((rd y244 AA) == 0) = true := beq_iff_eq.mpr AM; have AU : ((rd y244 AA) != 0) = false := bne_eq_false_iff_eq.mpr AM; clear AM
      have H' := zm H
      clear H; obtain ⟨BW, Ba, eo15⟩ := Kd.R_slice AD.out; subst eo15; have p247 : 0 ≤ (AA : Int) := zd; have q247 : AA < (y244.length : Int) := zd; obtain ⟨ad247, e247, hx247_0⟩ := Kd.at_int (Kd.R_reads' AD.out).2.2 AA p247 q247; cases e247; replace p247 := eq_true p247; replace q247 := eq_true q247
      go_wp2
      go_roundg k1
      case measure => have := Aa.out; omega
      case rel => exact ⟨(wrap64 (AA + 1)), zF, H', ⟨by have := Aa.out; omega⟩, ⟨zr AD⟩, ⟨zb AB⟩, ⟨zb AC⟩, ⟨zB⟩⟩
     ·rw [if_neg AM] at H; have AT : ((rd y244 AA) == 0) = false := beq_eq_false_iff_ne.mpr AM; have AU : ((rd y244 AA) != 0) = true := bne_iff_ne.mpr AM; obtain rfl := Option.some.inj H; obtain ⟨BX, Bb, eo16⟩ := Kd.R_slice AD.out; subst eo16; have p247 : 0 ≤ (AA : Int) := zd; have q247 : AA < (y244.length : Int) := zd; obtain ⟨ad247, e247, hx247_0⟩ := Kd.at_int (Kd.R_reads' AD.out).2.2 AA p247 q247; cases e247; replace p247 := eq_true p247; replace q247 := eq_true q247; have p248 : 0 ≤ (AA : Int) := zd; have q248 : AA < (y244.length : Int) := zd; obtain ⟨ad248, e248, hx248_0⟩ := Kd.at_int (Kd.R_reads' AD.out).2.2 AA p248 q248
      obtain rfl : ad247 = ad248 := (by injection e248)
      replace p248 := eq_true p248; replace q248 := eq_true q248
      go_wp2
      go_ret
      exact ⟨zE, zB⟩
    ·rw [if_neg AP] at H
     exact absurd H (by simp)
   ·rw [if_neg AN] at H; have AS : decide (AA < (y244.length : Int)) = false := decide_eq_false AN; clear AN
    by_cases AO : (Op.bytesLess a0_4.toList a1_4.toList) = true
    ·rw [if_pos AO] at H; have AV : (Op.bytesLess a0_4.toList a1_4.toList) = true := AO; clear AO; obtain rfl := Option.some.inj H; obtain ⟨BY, Bc, eo18⟩ := Kd.R_slice AD.out; subst eo18; have BS := AK.out; have BU := AL.out; obtain ⟨Ac, Ad, Ae, Af, Ag, Aw, Ax, Ay, Az, B0⟩ := zc5 AB; obtain ⟨Ah, Ai, Aj, Ak, Al, B2, B3, B7, BA, BB⟩ := zc5 AC
     go_wp2
     go_ret
     exact ⟨zE, zB⟩
    ·rw [if_neg AO] at H
     have AV : (Op.bytesLess a0_4.toList a1_4.toList) = false := by simpa using AO
     clear AO; replace H := Option.bind_eq_some_iff.mp H; obtain ⟨Ab, AQ, H⟩ := H; (try dsimp only at H); have BM := zm AQ; clear AQ; obtain rfl := Option.some.inj H; obtain ⟨BZ, Bd, eo23⟩ := Kd.R_slice AD.out; subst eo23; have BT := AK.out; have BV := AL.out; obtain ⟨Am, An, Ao, Ap, Aq, BC, BD, BE, BF, BG⟩ := zc5 AB; obtain ⟨Ar, As, At, Au, Av, BH, BI, BJ, BK, BL⟩ := zc5 AC
     go_wp2_with (first | ((with_reducible refine gate_callee (f := 102) rfl ?_); refine zg (some 53) #[.bool (!(a0_4.toList == a1_4.toList))] Try.func102 ?_; (with_reducible refine (spec_l1Bit.calls (!(a0_4.toList == a1_4.toList)) Ab _ BM.out).mono ?_); rintro e w' ⟨rfl, ⟨nd, rfl⟩⟩; refine ⟨_, rfl, ?_⟩))
     go_ret
     exact ⟨zE, zB⟩

/-! ### spec_l1Max: function 89 -/
def spec_l1Max.f (a0 : Int) (a1 : Int) : Option (Int) := if a0 > a1 then (some a0) else (some a1)
set_option maxHeartbeats 8000000 in
set_option maxRecDepth 100000 in
theorem spec_l1Max.calls (a0 : Int) (a1 : Int) (r : Int) (w : World) (h : spec_l1Max.f a0 a1 = some r) :
  Calls Try.prog 89 #[.int .i64 a0, .int .i64 a1] w fun e w' => e = .returned (.int .i64 r) ∧ Drawn0 w w' := by
 have H : (if a0 > a1 then (some a0) else (some a1)) = some r := h; clear h
 by_cases c3 : a0 > a1
 ·rw [if_pos c3] at H; have AA : decide (a1 < a0) = true := decide_eq_true c3; clear c3; obtain rfl := Option.some.inj H; go_enter Try.func89, Try.ntmps89
  go_wp2
  go_ret
  exact ⟨zF, zD⟩
 ·rw [if_neg c3] at H; have AA : decide (a1 < a0) = false := decide_eq_false c3; clear c3; obtain rfl := Option.some.inj H; go_enter Try.func89, Try.ntmps89
  go_wp2
  go_ret
  exact ⟨zF, zD⟩

end Go.Proofs.Ytnmofppbijmhoaa.P
