-- by a program of this session, for this seat
import Derived.Test.YtnmofppbijmhoaaZ
import Derived.Test.YtnmofppbijmhoaaP0
namespace Go.Proofs.Ytnmofppbijmhoaa.P
open Go.RowKit Go.Proofs.YtnmofppbijmhoaaW.PrintWords Go.Proofs.YtnmofppbijmhoaaW.PrintLast Go.Proofs.YtnmofppbijmhoaaW.PrintMore Go.Proofs.Ytnmofppbijmhoaa.Z
attribute [local go_sem] max2_int min2_int max_two min_two max_three min_three max_four min_four   -- for this text's walks alone
set_option linter.unusedVariables false
set_option linter.unusedSimpArgs false

/-! ### laws_big: function 12 -/
def laws_big.f (l0 : List Int) : Option (Bool) := some (decide ((l0.length : Int) > 1048576))
set_option maxHeartbeats 8000000 in
set_option maxRecDepth 100000 in
theorem laws_big.calls (A0 : Option Addr) (c0 : Nat) (l0 : List Int) (r : Bool) (w : World) (hr0 : Kd.C (Kd.int .u8) w A0 l0.length l0) (hc0 : l0.length ≤ c0) (h : laws_big.f l0 = some r) :
  Calls Try.prog 12 #[.slice A0 l0.length c0] w fun e w' => e = .returned (.bool r) ∧ Drawn0 w w' := by
 have HR0 := zm hr0; have AA := zm hc0; clear hr0 hc0; have H : (some (decide ((l0.length : Int) > 1048576))) = some r := h; clear h; obtain rfl := Option.some.inj H; go_enter Try.func12, Try.ntmps12
 go_wp2
 go_ret
 exact ⟨zF, zD⟩

/-! ### spec_FloorOf: function 63 -/
def spec_FloorOf.l0 : Nat → Int → Int → List (S44) → List (S58) → Option (Int)
 | 0, _, _, _, _ => none
 | k + 1, x1, x5, x102000, x102001 => if x5 < (x102001.length : Int) then (if 0 ≤ x5 then (if ((rd_T58 x102001 x5).f0) = x1 then (some ((rd_T58 x102001 x5).f1)) else (spec_FloorOf.l0 k x1 (wrap64 (x5 + 1)) x102000 x102001)) else (none)) else (some 0)
def spec_FloorOf.f (k : Nat) (l0_0 : List (S44)) (l0_1 : List (S58)) (a1 : Int) : Option (Int) := spec_FloorOf.l0 k a1 0 l0_0 l0_1
theorem spec_FloorOf.mono_l : ∀ k, (∀ y0 y1 y2 y3, LeO (spec_FloorOf.l0 k y0 y1 y2 y3) (spec_FloorOf.l0 (k + 1) y0 y1 y2 y3))
 | 0 => fun _ _ _ _ r h => by simp [spec_FloorOf.l0] at h
 | k + 1 => by
  have ih0 := spec_FloorOf.mono_l k
  ·intro y0 y1 y2 y3
   unfold spec_FloorOf.l0
   repeat' first | (with_reducible first | exact LeO.refl _ | exact LeO.none _ | refine LeO.ite ?_ ?_ | refine LeO.bind ?_ (fun _ => ?_) | apply ih0) | apply ih0 | exact LeO.none _ | refine LeO.ite ?_ ?_ | refine LeO.bind ?_ (fun _ => ?_)
theorem spec_FloorOf.mono : ∀ a0 a1 a2 k, LeO (spec_FloorOf.f k a0 a1 a2) (spec_FloorOf.f (k + 1) a0 a1 a2) := by
 intro a0 a1 a2 k; have ih0 := spec_FloorOf.mono_l k
 unfold spec_FloorOf.f
 repeat' first | (with_reducible first | exact LeO.refl _ | exact LeO.none _ | refine LeO.ite ?_ ?_ | refine LeO.bind ?_ (fun _ => ?_) | apply ih0) | apply ih0 | exact LeO.none _ | refine LeO.ite ?_ ?_ | refine LeO.bind ?_ (fun _ => ?_)
set_option maxHeartbeats 8000000 in
set_option maxRecDepth 100000 in
theorem spec_FloorOf.calls (k : Nat) (A0_0 : Option Addr) (c0_0 : Nat) (l0_0 : List (S44)) (A0_1 : Option Addr) (c0_1 : Nat) (l0_1 : List (S58)) (a1 : Int) (r : Int) (w : World) (hr0_0 : Kd.C k44 w A0_0 l0_0.length l0_0) (hc0_0 : l0_0.length ≤ c0_0) (hr0_1 : Kd.C k58 w A0_1 l0_1.length l0_1) (hc0_1 : l0_1.length ≤ c0_1) (h : spec_FloorOf.f k l0_0 l0_1 a1 = some r) :
  Calls Try.prog 63 #[.agg #[.slice A0_0 l0_0.length c0_0, .slice A0_1 l0_1.length c0_1], .int .i64 a1] w fun e w' => e = .returned (.int .i64 r) ∧ Below w.heap.size w w' := by
 have hu27 := Try.underlying27; have HR0_0 := zm hr0_0; have HC0_0 := zm hc0_0; clear hr0_0 hc0_0; have HR0_1 := zm hr0_1; have HC0_1 := zm hc0_1; clear hr0_1 hc0_1; have HB := zm (Below.refl w.heap.size w); have H : (spec_FloorOf.l0 k a1 0 l0_0 l0_1) = some r := h; clear h
 have H' := zm H
 clear H; go_enter Try.func63, Try.ntmps63
 go_wp2_with (first | ((with_reducible refine gate_dst (N := 2) rfl ?_); refine zbox 2 #[.slice A0_0 l0_0.length c0_0, .slice A0_1 l0_1.length c0_1] 27 ?_; intro AC hg w3 hbox hb; have AB := zm (hbox); have AU := zge w hg zB; have AT := zge w hg zB; replace HB := zm (below_step zB hb); clear hb hbox hg))
 go_loopg [5] k (fun kq v5 w' => ∃ (AA : Int), v5 = .int .i64 AA ∧ Aside0 (spec_FloorOf.l0 kq a1 AA l0_0 l0_1 = some r) ∧ Aside0 (kq ≤ k) ∧ Aside0 (w'.heap[AC]? = some (.cells #[(.slice A0_0 l0_0.length c0_0), (.slice A0_1 l0_1.length c0_1)] 27 (0, 0))) ∧ Aside0 (Below w.heap.size w w'))
 case atStart => exact ⟨(0), zF, H', ⟨Nat.le_refl _⟩, ⟨zb AB⟩, ⟨zB⟩⟩
 case round =>
  clear H'; obtain ⟨AA, rfl, HA, AD, AB, HB⟩ := hrel
  cases gk with
  | zero => exact absurd HA.out (by simp [spec_FloorOf.l0])
  | succ k1 =>
   have H := HA.out; clear HA; simp only [spec_FloorOf.l0] at H
   by_cases c4 : AA < (l0_1.length : Int)
   ·rw [if_pos c4] at H; have AE : decide (AA < (l0_1.length : Int)) = true := decide_eq_true c4; clear c4
    by_cases c5 : 0 ≤ AA
    ·rw [if_pos c5] at H; have AV : decide (0 ≤ AA) = true := decide_eq_true c5; clear c5
     by_cases c6 : ((rd_T58 l0_1 AA).f0) = a1
     ·rw [if_pos c6] at H; have AF : (((rd_T58 l0_1 AA).f0) == a1) = true := beq_iff_eq.mpr c6; have AG : (((rd_T58 l0_1 AA).f0) != a1) = false := bne_eq_false_iff_eq.mpr c6; clear c6; obtain rfl := Option.some.inj H; obtain ⟨AH, AI, AN, AO⟩ := zc2 AB; have p102 : 0 ≤ (AA : Int) := zd; have q102 : AA < (l0_1.length : Int) := zd; obtain ⟨ad102, e102, hx102_0, hx102_1⟩ := at_T58 (Kd.C_below HR0_1.out HB.out) AA p102 q102; cases e102; replace p102 := eq_true p102; replace q102 := eq_true q102; have p103 : 0 ≤ (AA : Int) := zd; have q103 : AA < (l0_1.length : Int) := zd; obtain ⟨ad103, e103, hx103_0, hx103_1⟩ := at_T58 (Kd.C_below HR0_1.out HB.out) AA p103 q103
      obtain rfl : ad102 = ad103 := (by injection e103)
      replace p103 := eq_true p103; replace q103 := eq_true q103
      go_wp2
      go_ret
      exact ⟨zE, zB⟩
     ·rw [if_neg c6] at H; have AF : (((rd_T58 l0_1 AA).f0) == a1) = false := beq_eq_false_iff_ne.mpr c6; have AG : (((rd_T58 l0_1 AA).f0) != a1) = true := bne_iff_ne.mpr c6
      have H' := zm H
      clear H; obtain ⟨AJ, AK, AP, AQ⟩ := zc2 AB; have p102 : 0 ≤ (AA : Int) := zd; have q102 : AA < (l0_1.length : Int) := zd; obtain ⟨ad102, e102, hx102_0, hx102_1⟩ := at_T58 (Kd.C_below HR0_1.out HB.out) AA p102 q102; cases e102; replace p102 := eq_true p102; replace q102 := eq_true q102
      go_wp2
      go_roundg k1
      case measure => have := AD.out; omega
      case rel => exact ⟨(wrap64 (AA + 1)), zF, H', ⟨by have := AD.out; omega⟩, ⟨zb AB⟩, ⟨zB⟩⟩
    ·rw [if_neg c5] at H
     exact absurd H (by simp)
   ·rw [if_neg c4] at H; have AE : decide (AA < (l0_1.length : Int)) = false := decide_eq_false c4; clear c4; obtain rfl := Option.some.inj H; obtain ⟨AL, AM, AR, AS⟩ := zc2 AB
    go_wp2
    go_ret
    exact ⟨zE, zB⟩

/-! ### spec_l1In: function 66 -/
def spec_l1In.f (a0 : Int) (a1 : Int) (a2 : Int) : Option (Bool) := if a0 ≥ a1 then (some (decide (a0 ≤ a2))) else (some false)
set_option maxHeartbeats 8000000 in
set_option maxRecDepth 100000 in
theorem spec_l1In.calls (a0 : Int) (a1 : Int) (a2 : Int) (r : Bool) (w : World) (h : spec_l1In.f a0 a1 a2 = some r) :
  Calls Try.prog 66 #[.int .i64 a0, .int .i64 a1, .int .i64 a2] w fun e w' => e = .returned (.bool r) ∧ Drawn0 w w' := by
 have H : (if a0 ≥ a1 then (some (decide (a0 ≤ a2))) else (some false)) = some r := h; clear h
 by_cases c4 : a0 ≥ a1
 ·rw [if_pos c4] at H; have AA : decide (a1 ≤ a0) = true := decide_eq_true c4; clear c4; obtain rfl := Option.some.inj H; go_enter Try.func66, Try.ntmps66
  go_wp2
  go_ret
  exact ⟨zF, zD⟩
 ·rw [if_neg c4] at H; have AA : decide (a1 ≤ a0) = false := decide_eq_false c4; clear c4; obtain rfl := Option.some.inj H; go_enter Try.func66, Try.ntmps66
  go_wp2
  go_ret
  exact ⟨zF, zD⟩

/-! ### spec_l3Node: function 64 -/
def spec_l3Node.f (a0 : Int) : Option (Bool) := (spec_l1In.f a0 0 4).bind fun t104 => (some t104)
set_option maxHeartbeats 8000000 in
set_option maxRecDepth 100000 in
theorem spec_l3Node.calls (a0 : Int) (r : Bool) (w : World) (h : spec_l3Node.f a0 = some r) :
  Calls Try.prog 64 #[.int .i64 a0] w fun e w' => e = .returned (.bool r) ∧ Drawn0 w w' := by
 have H : ((spec_l1In.f a0 0 4).bind fun AA => (some AA)) = some r := h; clear h; replace H := Option.bind_eq_some_iff.mp H; obtain ⟨AA, AB, H⟩ := H; (try dsimp only at H); have A2 := zm AB; clear AB; obtain rfl := Option.some.inj H; go_enter Try.func64, Try.ntmps64
 go_wp2_with (first | ((with_reducible refine gate_callee (f := 66) rfl ?_); refine zg (some 4) #[.int .i64 a0, .int .i64 0, .int .i64 4] Try.func66 ?_; (with_reducible refine (spec_l1In.calls a0 0 4 AA _ A2.out).mono ?_); rintro e w' ⟨rfl, ⟨nd, rfl⟩⟩; refine ⟨_, rfl, ?_⟩))
 go_ret
 exact ⟨zF, zD⟩

/-! ### spec_EntryOk: function 65 -/
def spec_EntryOk.f (a0_0 : Int) (a0_1 : Int) (a0_2 : Int) (a0_3 : Int) (a0_4 : ByteArray) : Option (Bool) := (spec_l1In.f a0_0 1 1000).bind fun t106 => (if t106 = true then ((spec_l1In.f a0_1 0 1).bind fun t107 => (if t107 = true then ((spec_l1In.f a0_2 0 100000).bind fun t108 => (if t108 = true then ((spec_l1In.f a0_3 0 1000).bind fun t109 => (if t109 = true then (some (decide ((a0_4.size : Int) ≤ 8))) else (some false))) else (some false))) else (some false))) else (some false))
set_option maxHeartbeats 8000000 in
set_option maxRecDepth 100000 in
theorem spec_EntryOk.calls (a0_0 : Int) (a0_1 : Int) (a0_2 : Int) (a0_3 : Int) (a0_4 : ByteArray) (r : Bool) (w : World) (h : spec_EntryOk.f a0_0 a0_1 a0_2 a0_3 a0_4 = some r) :
  Calls Try.prog 65 #[.agg #[.int .i64 a0_0, .int .i64 a0_1, .int .i64 a0_2, .int .i64 a0_3, .string a0_4]] w fun e w' => e = .returned (.bool r) ∧ Below w.heap.size w w' := by
 have hu36 := Try.underlying36; have HB := zm (Below.refl w.heap.size w); have H : ((spec_l1In.f a0_0 1 1000).bind fun AE => (if AE = true then ((spec_l1In.f a0_1 0 1).bind fun AF => (if AF = true then ((spec_l1In.f a0_2 0 100000).bind fun AG => (if AG = true then ((spec_l1In.f a0_3 0 1000).bind fun AH => (if AH = true then (some (decide ((a0_4.size : Int) ≤ 8))) else (some false))) else (some false))) else (some false))) else (some false))) = some r := h; clear h; replace H := Option.bind_eq_some_iff.mp H; obtain ⟨AE, AI, H⟩ := H; (try dsimp only at H); have A2 := zm AI; clear AI
 by_cases c3 : AE = true
 ·subst c3; rw [if_pos rfl] at H; replace H := Option.bind_eq_some_iff.mp H; obtain ⟨AF, AJ, H⟩ := H; (try dsimp only at H); have A4 := zm AJ; clear AJ
  by_cases c5 : AF = true
  ·subst c5; rw [if_pos rfl] at H; replace H := Option.bind_eq_some_iff.mp H; obtain ⟨AG, AK, H⟩ := H; (try dsimp only at H); have A6 := zm AK; clear AK
   by_cases c7 : AG = true
   ·subst c7; rw [if_pos rfl] at H; replace H := Option.bind_eq_some_iff.mp H; obtain ⟨AH, AL, H⟩ := H; (try dsimp only at H); have A8 := zm AL; clear AL
    by_cases c9 : AH = true
    ·subst c9; rw [if_pos rfl] at H; obtain rfl := Option.some.inj H; go_enter Try.func65, Try.ntmps65
     go_wp2_with (first | ((with_reducible refine gate_dst (N := 1) rfl ?_); (try (refine gate_guard (by rfl) ?_; dsimp only)); refine zbox 1 #[.int .i64 a0_0, .int .i64 a0_1, .int .i64 a0_2, .int .i64 a0_3, .string a0_4] 36 ?_; intro AD hg BH hbox hb; have AA := zm (hbox); have AC := zge w hg zB; have AB := zge w hg zB; replace HB := zm (below_step zB hb); clear hb hbox hg; obtain ⟨AM, AN, AO, AP, AQ, Al, Am, An, Ao, Ap⟩ := zc5 AA) | ((with_reducible refine gate_callee (f := 66) rfl ?_); refine zg (some 5) #[.int .i64 a0_0, .int .i64 1, .int .i64 1000] Try.func66 ?_; (with_reducible refine (spec_l1In.calls a0_0 1 1000 true _ A2.out).mono ?_); rintro e w' ⟨rfl, ⟨nd, rfl⟩⟩; refine ⟨_, rfl, ?_⟩) | (go_at_call 66; (with_reducible refine (spec_l1In.calls a0_1 0 1 true _ A4.out).mono ?_); rintro e w' ⟨rfl, ⟨nd, rfl⟩⟩) | (go_at_call 66; (with_reducible refine (spec_l1In.calls a0_2 0 100000 true _ A6.out).mono ?_); rintro e w' ⟨rfl, ⟨nd, rfl⟩⟩) | (go_at_call 66; (with_reducible refine (spec_l1In.calls a0_3 0 1000 true _ A8.out).mono ?_); rintro e w' ⟨rfl, ⟨nd, rfl⟩⟩))
     go_ret
     exact ⟨zE, zB⟩
    ·replace c9 := Bool.eq_false_iff.mpr c9; subst c9; rw [zff] at H; obtain rfl := Option.some.inj H; go_enter Try.func65, Try.ntmps65
     go_wp2_with (first | ((with_reducible refine gate_dst (N := 1) rfl ?_); (try (refine gate_guard (by rfl) ?_; dsimp only)); refine zbox 1 #[.int .i64 a0_0, .int .i64 a0_1, .int .i64 a0_2, .int .i64 a0_3, .string a0_4] 36 ?_; intro AD hg BI hbox hb; have AA := zm (hbox); have AC := zge w hg zB; have AB := zge w hg zB; replace HB := zm (below_step zB hb); clear hb hbox hg; obtain ⟨AR, AS, AT, AU, AV, Aq, Ar, As, At, Au⟩ := zc5 AA) | ((with_reducible refine gate_callee (f := 66) rfl ?_); refine zg (some 5) #[.int .i64 a0_0, .int .i64 1, .int .i64 1000] Try.func66 ?_; (with_reducible refine (spec_l1In.calls a0_0 1 1000 true _ A2.out).mono ?_); rintro e w' ⟨rfl, ⟨nd, rfl⟩⟩; refine ⟨_, rfl, ?_⟩) | (go_at_call 66; (with_reducible refine (spec_l1In.calls a0_1 0 1 true _ A4.out).mono ?_); rintro e w' ⟨rfl, ⟨nd, rfl⟩⟩) | (go_at_call 66; (with_reducible refine (spec_l1In.calls a0_2 0 100000 true _ A6.out).mono ?_); rintro e w' ⟨rfl, ⟨nd, rfl⟩⟩) | (go_at_call 66; (with_reducible refine (spec_l1In.calls a0_3 0 1000 false _ A8.out).mono ?_); rintro e w' ⟨rfl, ⟨nd, rfl⟩⟩))
     go_ret
     exact ⟨zE, zB⟩
   ·replace c7 := Bool.eq_false_iff.mpr c7; subst c7; rw [zff] at H; obtain rfl := Option.some.inj H; go_enter Try.func65, Try.ntmps65
    go_wp2_with (first | ((with_reducible refine gate_dst (N := 1) rfl ?_); (try (refine gate_guard (by rfl) ?_; dsimp only)); refine zbox 1 #[.int .i64 a0_0, .int .i64 a0_1, .int .i64 a0_2, .int .i64 a0_3, .string a0_4] 36 ?_; intro AD hg BJ hbox hb; have AA := zm (hbox); have AC := zge w hg zB; have AB := zge w hg zB; replace HB := zm (below_step zB hb); clear hb hbox hg; obtain ⟨AW, AX, AY, AZ, Aa, Av, Aw, Ax, Ay, Az⟩ := zc5 AA) | ((with_reducible refine gate_callee (f := 66) rfl ?_); refine zg (some 5) #[.int .i64 a0_0, .int .i64 1, .int .i64 1000] Try.func66 ?_; (with_reducible refine (spec_l1In.calls a0_0 1 1000 true _ A2.out).mono ?_); rintro e w' ⟨rfl, ⟨nd, rfl⟩⟩; refine ⟨_, rfl, ?_⟩) | (go_at_call 66; (with_reducible refine (spec_l1In.calls a0_1 0 1 true _ A4.out).mono ?_); rintro e w' ⟨rfl, ⟨nd, rfl⟩⟩) | (go_at_call 66; (with_reducible refine (spec_l1In.calls a0_2 0 100000 false _ A6.out).mono ?_); rintro e w' ⟨rfl, ⟨nd, rfl⟩⟩))
    go_ret
    exact ⟨zE, zB⟩
  ·replace c5 := Bool.eq_false_iff.mpr c5; subst c5; rw [zff] at H; obtain rfl := Option.some.inj H; go_enter Try.func65, Try.ntmps65
   go_wp2_with (first | ((with_reducible refine gate_dst (N := 1) rfl ?_); (try (refine gate_guard (by rfl) ?_; dsimp only)); refine zbox 1 #[.int .i64 a0_0, .int .i64 a0_1, .int .i64 a0_2, .int .i64 a0_3, .string a0_4] 36 ?_; intro AD hg BK hbox hb; have AA := zm (hbox); have AC := zge w hg zB; have AB := zge w hg zB; replace HB := zm (below_step zB hb); clear hb hbox hg; obtain ⟨Ab, Ac, Ad, Ae, Af, B0, B2, B3, BA, BB⟩ := zc5 AA) | ((with_reducible refine gate_callee (f := 66) rfl ?_); refine zg (some 5) #[.int .i64 a0_0, .int .i64 1, .int .i64 1000] Try.func66 ?_; (with_reducible refine (spec_l1In.calls a0_0 1 1000 true _ A2.out).mono ?_); rintro e w' ⟨rfl, ⟨nd, rfl⟩⟩; refine ⟨_, rfl, ?_⟩) | (go_at_call 66; (with_reducible refine (spec_l1In.calls a0_1 0 1 false _ A4.out).mono ?_); rintro e w' ⟨rfl, ⟨nd, rfl⟩⟩))
   go_ret
   exact ⟨zE, zB⟩
 ·replace c3 := Bool.eq_false_iff.mpr c3; subst c3; rw [zff] at H; obtain rfl := Option.some.inj H; go_enter Try.func65, Try.ntmps65
  go_wp2_with (first | ((with_reducible refine gate_dst (N := 1) rfl ?_); (try (refine gate_guard (by rfl) ?_; dsimp only)); refine zbox 1 #[.int .i64 a0_0, .int .i64 a0_1, .int .i64 a0_2, .int .i64 a0_3, .string a0_4] 36 ?_; intro AD hg BL hbox hb; have AA := zm (hbox); have AC := zge w hg zB; have AB := zge w hg zB; replace HB := zm (below_step zB hb); clear hb hbox hg; obtain ⟨Ag, Ah, Ai, Aj, Ak, BC, BD, BE, BF, BG⟩ := zc5 AA) | ((with_reducible refine gate_callee (f := 66) rfl ?_); refine zg (some 5) #[.int .i64 a0_0, .int .i64 1, .int .i64 1000] Try.func66 ?_; (with_reducible refine (spec_l1In.calls a0_0 1 1000 false _ A2.out).mono ?_); rintro e w' ⟨rfl, ⟨nd, rfl⟩⟩; refine ⟨_, rfl, ?_⟩))
  go_ret
  exact ⟨zE, zB⟩

end Go.Proofs.Ytnmofppbijmhoaa.P
