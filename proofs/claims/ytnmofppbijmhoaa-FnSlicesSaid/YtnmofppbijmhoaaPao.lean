-- by a program of this session, for this seat
import Derived.Test.YtnmofppbijmhoaaZ
import Derived.Test.YtnmofppbijmhoaaP0
import Derived.Test.YtnmofppbijmhoaaPak
namespace Go.Proofs.Ytnmofppbijmhoaa.P
open Go.RowKit Go.Proofs.YtnmofppbijmhoaaW.PrintWords Go.Proofs.YtnmofppbijmhoaaW.PrintLast Go.Proofs.YtnmofppbijmhoaaW.PrintMore Go.Proofs.Ytnmofppbijmhoaa.Z
attribute [local go_sem] max2_int min2_int max_two min_two max_three min_three max_four min_four   -- for this text's walks alone
set_option linter.unusedVariables false
set_option linter.unusedSimpArgs false

theorem eqA44 (d : Nat) (w : World) (x0 y0 : Int) (x1 y1 : Int) (x2 y2 : Int) (x3 y3 : Int) (x4 y4 : Int) (x5 y5 : ByteArray) :
  (Op.equalIn (d + 3) 44 (.agg #[.int .i64 x0, .int .i64 x1, .int .i64 x2, .int .i64 x3, .int .i64 x4, .string x5]) (.agg #[.int .i64 y0, .int .i64 y1, .int .i64 y2, .int .i64 y3, .int .i64 y4, .string y5])).run Try.prog w = .ok (x0 == y0 && ((x1 == y1 && (x2 == y2 && (x3 == y3 && (x4 == y4 && (x5.toList == y5.toList))))))) w := by
 refine eqA_of Try.underlying44 (by kernel_rfl) ?_
 refine eqf_cons (by rfl) (by go_simp; rfl) (by go_simp; rfl) (by go_simp) ?_
 exact eqf_last (by rfl) (by go_simp) (by go_simp) (eqA36 (d + 0) w _ _ _ _ _ _ _ _ _ _)

theorem eqA58 (d : Nat) (w : World) (x0 y0 : Int) (x1 y1 : Int) :
  (Op.equalIn (d + 2) 58 (.agg #[.int .i64 x0, .int .i64 x1]) (.agg #[.int .i64 y0, .int .i64 y1])).run Try.prog w = .ok (x0 == y0 && (x1 == y1)) w := by
 refine eqA_of Try.underlying58 (by kernel_rfl) ?_
 refine eqf_cons (by rfl) (by go_simp; rfl) (by go_simp; rfl) (by go_simp) ?_
 exact eqf_last (by rfl) (by go_simp; rfl) (by go_simp; rfl) (by go_simp)

section
attribute [local go_sem high] eqA44
/-! ### impl_Item: function 68 -/
def impl_Item.l0 : Nat → List (S44) → List (S44) → Int → Int → Option (Bool)
 | 0, _, _, _, _ => none
 | k + 1, x0, x1, x12, x13 => if x13 < x12 then (if 0 ≤ x13 then (if x13 < (x0.length : Int) then (if x13 < (x1.length : Int) then (if (!(((rd_T44 x0 x13).f0) == ((rd_T44 x1 x13).f0)) || ((!(((rd_T44 x0 x13).f1.f0) == ((rd_T44 x1 x13).f1.f0)) || (!(((rd_T44 x0 x13).f1.f1) == ((rd_T44 x1 x13).f1.f1)) || (!(((rd_T44 x0 x13).f1.f2) == ((rd_T44 x1 x13).f1.f2)) || (!(((rd_T44 x0 x13).f1.f3) == ((rd_T44 x1 x13).f1.f3)) || (!((((rd_T44 x0 x13).f1.f4).toList) == (((rd_T44 x1 x13).f1.f4).toList))))))))) = true then (some false) else (impl_Item.l0 k x0 x1 x12 (wrap64 (x13 + 1)))) else (none)) else (none)) else (none)) else (some true)
def impl_Item.f (k : Nat) (l0 : List (S44)) (l1 : List (S44)) : Option (Bool) := if (l0.length : Int) = (l1.length : Int) then (impl_Item.l0 k l0 l1 (l0.length : Int) 0) else (some false)
theorem impl_Item.mono_l : ∀ k, (∀ y0 y1 y2 y3, LeO (impl_Item.l0 k y0 y1 y2 y3) (impl_Item.l0 (k + 1) y0 y1 y2 y3))
 | 0 => fun _ _ _ _ r h => by simp [impl_Item.l0] at h
 | k + 1 => by
  have ih0 := impl_Item.mono_l k
  ·intro y0 y1 y2 y3
   unfold impl_Item.l0
   repeat' first | (with_reducible first | exact LeO.refl _ | exact LeO.none _ | refine LeO.ite ?_ ?_ | refine LeO.bind ?_ (fun _ => ?_) | apply ih0) | apply ih0 | exact LeO.none _ | refine LeO.ite ?_ ?_ | refine LeO.bind ?_ (fun _ => ?_)
theorem impl_Item.mono : ∀ a0 a1 k, LeO (impl_Item.f k a0 a1) (impl_Item.f (k + 1) a0 a1) := by
 intro a0 a1 k; have ih0 := impl_Item.mono_l k
 unfold impl_Item.f
 repeat' first | (with_reducible first | exact LeO.refl _ | exact LeO.none _ | refine LeO.ite ?_ ?_ | refine LeO.bind ?_ (fun _ => ?_) | apply ih0) | apply ih0 | exact LeO.none _ | refine LeO.ite ?_ ?_ | refine LeO.bind ?_ (fun _ => ?_)
set_option maxHeartbeats 8000000 in
set_option maxRecDepth 100000 in
theorem impl_Item.calls (k : Nat) (A0 : Option Addr) (c0 : Nat) (l0 : List (S44)) (A1 : Option Addr) (c1 : Nat) (l1 : List (S44)) (r : Bool) (w : World) (hr0 : Kd.C k44 w A0 l0.length l0) (hc0 : l0.length ≤ c0) (hr1 : Kd.C k44 w A1 l1.length l1) (hc1 : l1.length ≤ c1) (h : impl_Item.f k l0 l1 = some r) :
  Calls Try.prog 68 #[.slice A0 l0.length c0, .slice A1 l1.length c1] w fun e w' => e = .returned (.bool r) ∧ Drawn0 w w' := by
 have hu44 := Try.underlying44; have HR0 := zm hr0; have AK := zm hc0; clear hr0 hc0; have HR1 := zm hr1; have AL := zm hc1; clear hr1 hc1; have H : (if (l0.length : Int) = (l1.length : Int) then (impl_Item.l0 k l0 l1 (l0.length : Int) 0) else (some false)) = some r := h; clear h
 by_cases c3 : (l0.length : Int) = (l1.length : Int)
 ·rw [if_pos c3] at H; have AB : ((l0.length : Int) == (l1.length : Int)) = true := beq_iff_eq.mpr c3; have AC : ((l0.length : Int) != (l1.length : Int)) = false := bne_eq_false_iff_eq.mpr c3
  have AD : (l0.length == l1.length) = true := by first | simpa using c3 | (simp at c3 ⊢; omega)
  clear c3
  have H' := zm H
  clear H; go_enter Try.func68, Try.ntmps68
  go_wp2
  repeat (go_quiet (fail); try go_wp2)
  go_loopg [13] k (fun kq v13 w' => ∃ (AA : Int), v13 = .int .i64 AA ∧ Aside0 (impl_Item.l0 kq l0 l1 (l0.length : Int) AA = some r) ∧ Aside0 (kq ≤ k) ∧ Drawn0 w w')
  case atStart => exact ⟨(0), zF, H', ⟨Nat.le_refl _⟩, zD⟩
  case round =>
   clear H'; (try clear c1); (try clear c3); (try clear AB); (try clear AC); (try clear AD); obtain ⟨AA, rfl, HA, AE, ⟨m1, rfl⟩⟩ := hrel
   cases gk with
   | zero => exact absurd HA.out (by simp [impl_Item.l0])
   | succ k1 =>
    have H := HA.out; clear HA; simp only [impl_Item.l0] at H
    by_cases c4 : AA < (l0.length : Int)
    ·rw [if_pos c4] at H; have AF : decide (AA < (l0.length : Int)) = true := decide_eq_true c4; clear c4
     by_cases c5 : 0 ≤ AA
     ·rw [if_pos c5] at H; have AH : decide (0 ≤ AA) = true := decide_eq_true c5; clear c5
      by_cases c6 : AA < (l0.length : Int)
      ·rw [if_pos c6] at H; have AI : decide (AA < (l0.length : Int)) = true := decide_eq_true c6; clear c6
       by_cases c7 : AA < (l1.length : Int)
       ·rw [if_pos c7] at H; have AJ : decide (AA < (l1.length : Int)) = true := decide_eq_true c7; clear c7
        by_cases c8 : (!(((rd_T44 l0 AA).f0) == ((rd_T44 l1 AA).f0)) || ((!(((rd_T44 l0 AA).f1.f0) == ((rd_T44 l1 AA).f1.f0)) || (!(((rd_T44 l0 AA).f1.f1) == ((rd_T44 l1 AA).f1.f1)) || (!(((rd_T44 l0 AA).f1.f2) == ((rd_T44 l1 AA).f1.f2)) || (!(((rd_T44 l0 AA).f1.f3) == ((rd_T44 l1 AA).f1.f3)) || (!((((rd_T44 l0 AA).f1.f4).toList) == (((rd_T44 l1 AA).f1.f4).toList))))))))) = true
        ·rw [if_pos c8] at H; have AG : (!(((rd_T44 l0 AA).f0) == ((rd_T44 l1 AA).f0)) || ((!(((rd_T44 l0 AA).f1.f0) == ((rd_T44 l1 AA).f1.f0)) || (!(((rd_T44 l0 AA).f1.f1) == ((rd_T44 l1 AA).f1.f1)) || (!(((rd_T44 l0 AA).f1.f2) == ((rd_T44 l1 AA).f1.f2)) || (!(((rd_T44 l0 AA).f1.f3) == ((rd_T44 l1 AA).f1.f3)) || (!((((rd_T44 l0 AA).f1.f4).toList) == (((rd_T44 l1 AA).f1.f4).toList))))))))) = true := c8; clear c8; obtain rfl := Option.some.inj H; have p589 : 0 ≤ (AA : Int) := zd; have q589 : AA < (l0.length : Int) := zd; obtain ⟨ad589, e589, hx589_0, hx589_1, hx589_2, hx589_3, hx589_4, hx589_5⟩ := at_T44 HR0.out AA p589 q589; cases e589; replace p589 := eq_true p589; replace q589 := eq_true q589; have p590 : 0 ≤ (AA : Int) := zd; have q590 : AA < (l1.length : Int) := zd; obtain ⟨ad590, e590, hx590_0, hx590_1, hx590_2, hx590_3, hx590_4, hx590_5⟩ := at_T44 HR1.out AA p590 q590; cases e590; replace p590 := eq_true p590; replace q590 := eq_true q590
         go_wp2
         repeat (go_quiet (fail); try go_wp2)
         go_ret
         exact ⟨zF, zD⟩
        ·rw [if_neg c8] at H
         have AG : (!(((rd_T44 l0 AA).f0) == ((rd_T44 l1 AA).f0)) || ((!(((rd_T44 l0 AA).f1.f0) == ((rd_T44 l1 AA).f1.f0)) || (!(((rd_T44 l0 AA).f1.f1) == ((rd_T44 l1 AA).f1.f1)) || (!(((rd_T44 l0 AA).f1.f2) == ((rd_T44 l1 AA).f1.f2)) || (!(((rd_T44 l0 AA).f1.f3) == ((rd_T44 l1 AA).f1.f3)) || (!((((rd_T44 l0 AA).f1.f4).toList) == (((rd_T44 l1 AA).f1.f4).toList))))))))) = false := by simpa using c8
         clear c8
         have H' := zm H
         clear H; have p589 : 0 ≤ (AA : Int) := zd; have q589 : AA < (l0.length : Int) := zd; obtain ⟨ad589, e589, hx589_0, hx589_1, hx589_2, hx589_3, hx589_4, hx589_5⟩ := at_T44 HR0.out AA p589 q589; cases e589; replace p589 := eq_true p589; replace q589 := eq_true q589; have p590 : 0 ≤ (AA : Int) := zd; have q590 : AA < (l1.length : Int) := zd; obtain ⟨ad590, e590, hx590_0, hx590_1, hx590_2, hx590_3, hx590_4, hx590_5⟩ := at_T44 HR1.out AA p590 q590; cases e590; replace p590 := eq_true p590; replace q590 := eq_true q590
         go_wp2
         repeat (go_quiet (fail); try go_wp2)
         go_roundg k1
         case measure => have := AE.out; omega
         case rel => exact ⟨(wrap64 (AA + 1)), zF, H', ⟨by have := AE.out; omega⟩, zD⟩
       ·rw [if_neg c7] at H
        exact absurd H (by simp)
      ·rw [if_neg c6] at H
       exact absurd H (by simp)
     ·rw [if_neg c5] at H
      exact absurd H (by simp)
    ·rw [if_neg c4] at H; have AF : decide (AA < (l0.length : Int)) = false := decide_eq_false c4; clear c4; obtain rfl := Option.some.inj H
     go_wp2
     repeat (go_quiet (fail); try go_wp2)
     go_ret
     exact ⟨zF, zD⟩
 ·rw [if_neg c3] at H; have AB : ((l0.length : Int) == (l1.length : Int)) = false := beq_eq_false_iff_ne.mpr c3; have AC : ((l0.length : Int) != (l1.length : Int)) = true := bne_iff_ne.mpr c3
  have AD : (l0.length == l1.length) = false := by first | simpa using c3 | (simp at c3 ⊢; omega)
  obtain rfl := Option.some.inj H; go_enter Try.func68, Try.ntmps68
  go_wp2
  repeat (go_quiet (fail); try go_wp2)
  go_ret
  exact ⟨zF, zD⟩
end

section
attribute [local go_sem high] eqA58
/-! ### impl_Floor: function 69 -/
def impl_Floor.l0 : Nat → List (S58) → List (S58) → Int → Int → Option (Bool)
 | 0, _, _, _, _ => none
 | k + 1, x0, x1, x12, x13 => if x13 < x12 then (if 0 ≤ x13 then (if x13 < (x0.length : Int) then (if x13 < (x1.length : Int) then (if (!(((rd_T58 x0 x13).f0) == ((rd_T58 x1 x13).f0)) || (!(((rd_T58 x0 x13).f1) == ((rd_T58 x1 x13).f1)))) = true then (some false) else (impl_Floor.l0 k x0 x1 x12 (wrap64 (x13 + 1)))) else (none)) else (none)) else (none)) else (some true)
def impl_Floor.f (k : Nat) (l0 : List (S58)) (l1 : List (S58)) : Option (Bool) := if (l0.length : Int) = (l1.length : Int) then (impl_Floor.l0 k l0 l1 (l0.length : Int) 0) else (some false)
theorem impl_Floor.mono_l : ∀ k, (∀ y0 y1 y2 y3, LeO (impl_Floor.l0 k y0 y1 y2 y3) (impl_Floor.l0 (k + 1) y0 y1 y2 y3))
 | 0 => fun _ _ _ _ r h => by simp [impl_Floor.l0] at h
 | k + 1 => by
  have ih0 := impl_Floor.mono_l k
  ·intro y0 y1 y2 y3
   unfold impl_Floor.l0
   repeat' first | (with_reducible first | exact LeO.refl _ | exact LeO.none _ | refine LeO.ite ?_ ?_ | refine LeO.bind ?_ (fun _ => ?_) | apply ih0) | apply ih0 | exact LeO.none _ | refine LeO.ite ?_ ?_ | refine LeO.bind ?_ (fun _ => ?_)
theorem impl_Floor.mono : ∀ a0 a1 k, LeO (impl_Floor.f k a0 a1) (impl_Floor.f (k + 1) a0 a1) := by
 intro a0 a1 k; have ih0 := impl_Floor.mono_l k
 unfold impl_Floor.f
 repeat' first | (with_reducible first | exact LeO.refl _ | exact LeO.none _ | refine LeO.ite ?_ ?_ | refine LeO.bind ?_ (fun _ => ?_) | apply ih0) | apply ih0 | exact LeO.none _ | refine LeO.ite ?_ ?_ | refine LeO.bind ?_ (fun _ => ?_)
set_option maxHeartbeats 8000000 in
set_option maxRecDepth 100000 in
theorem impl_Floor.calls (k : Nat) (A0 : Option Addr) (c0 : Nat) (l0 : List (S58)) (A1 : Option Addr) (c1 : Nat) (l1 : List (S58)) (r : Bool) (w : World) (hr0 : Kd.C k58 w A0 l0.length l0) (hc0 : l0.length ≤ c0) (hr1 : Kd.C k58 w A1 l1.length l1) (hc1 : l1.length ≤ c1) (h : impl_Floor.f k l0 l1 = some r) :
  Calls Try.prog 69 #[.slice A0 l0.length c0, .slice A1 l1.length c1] w fun e w' => e = .returned (.bool r) ∧ Drawn0 w w' := by
 have hu58 := Try.underlying58; have HR0 := zm hr0; have AK := zm hc0; clear hr0 hc0; have HR1 := zm hr1; have AL := zm hc1; clear hr1 hc1; have H : (if (l0.length : Int) = (l1.length : Int) then (impl_Floor.l0 k l0 l1 (l0.length : Int) 0) else (some false)) = some r := h; clear h
 by_cases c3 : (l0.length : Int) = (l1.length : Int)
 ·rw [if_pos c3] at H; have AB : ((l0.length : Int) == (l1.length : Int)) = true := beq_iff_eq.mpr c3; have AC : ((l0.length : Int) != (l1.length : Int)) = false := bne_eq_false_iff_eq.mpr c3
  have AD : (l0.length == l1.length) = true := by first | simpa using c3 | (simp at c3 ⊢; omega)
  clear c3
  have H' := zm H
  clear H; go_enter Try.func69, Try.ntmps69
  go_wp2
  repeat (go_quiet (fail); try go_wp2)
  go_loopg [13] k (fun kq v13 w' => ∃ (AA : Int), v13 = .int .i64 AA ∧ Aside0 (impl_Floor.l0 kq l0 l1 (l0.length : Int) AA = some r) ∧ Aside0 (kq ≤ k) ∧ Drawn0 w w')
  case atStart => exact ⟨(0), zF, H', ⟨Nat.le_refl _⟩, zD⟩
  case round =>
   clear H'; (try clear c1); (try clear c3); (try clear AB); (try clear AC); (try clear AD); obtain ⟨AA, rfl, HA, AE, ⟨m1, rfl⟩⟩ := hrel
   cases gk with
   | zero => exact absurd HA.out (by simp [impl_Floor.l0])
   | succ k1 =>
    have H := HA.out; clear HA; simp only [impl_Floor.l0] at H
    by_cases c4 : AA < (l0.length : Int)
    ·rw [if_pos c4] at H; have AF : decide (AA < (l0.length : Int)) = true := decide_eq_true c4; clear c4
     by_cases c5 : 0 ≤ AA
     ·rw [if_pos c5] at H; have AH : decide (0 ≤ AA) = true := decide_eq_true c5; clear c5
      by_cases c6 : AA < (l0.length : Int)
      ·rw [if_pos c6] at H; have AI : decide (AA < (l0.length : Int)) = true := decide_eq_true c6; clear c6
       by_cases c7 : AA < (l1.length : Int)
       ·rw [if_pos c7] at H; have AJ : decide (AA < (l1.length : Int)) = true := decide_eq_true c7; clear c7
        by_cases c8 : (!(((rd_T58 l0 AA).f0) == ((rd_T58 l1 AA).f0)) || (!(((rd_T58 l0 AA).f1) == ((rd_T58 l1 AA).f1)))) = true
        ·rw [if_pos c8] at H; have AG : (!(((rd_T58 l0 AA).f0) == ((rd_T58 l1 AA).f0)) || (!(((rd_T58 l0 AA).f1) == ((rd_T58 l1 AA).f1)))) = true := c8; clear c8; obtain rfl := Option.some.inj H; have p591 : 0 ≤ (AA : Int) := zd; have q591 : AA < (l0.length : Int) := zd; obtain ⟨ad591, e591, hx591_0, hx591_1⟩ := at_T58 HR0.out AA p591 q591; cases e591; replace p591 := eq_true p591; replace q591 := eq_true q591; have p592 : 0 ≤ (AA : Int) := zd; have q592 : AA < (l1.length : Int) := zd; obtain ⟨ad592, e592, hx592_0, hx592_1⟩ := at_T58 HR1.out AA p592 q592; cases e592; replace p592 := eq_true p592; replace q592 := eq_true q592
         go_wp2
         repeat (go_quiet (fail); try go_wp2)
         go_ret
         exact ⟨zF, zD⟩
        ·rw [if_neg c8] at H
         have AG : (!(((rd_T58 l0 AA).f0) == ((rd_T58 l1 AA).f0)) || (!(((rd_T58 l0 AA).f1) == ((rd_T58 l1 AA).f1)))) = false := by simpa using c8
         clear c8
         have H' := zm H
         clear H; have p591 : 0 ≤ (AA : Int) := zd; have q591 : AA < (l0.length : Int) := zd; obtain ⟨ad591, e591, hx591_0, hx591_1⟩ := at_T58 HR0.out AA p591 q591; cases e591; replace p591 := eq_true p591; replace q591 := eq_true q591; have p592 : 0 ≤ (AA : Int) := zd; have q592 : AA < (l1.length : Int) := zd; obtain ⟨ad592, e592, hx592_0, hx592_1⟩ := at_T58 HR1.out AA p592 q592; cases e592; replace p592 := eq_true p592; replace q592 := eq_true q592
         go_wp2
         repeat (go_quiet (fail); try go_wp2)
         go_roundg k1
         case measure => have := AE.out; omega
         case rel => exact ⟨(wrap64 (AA + 1)), zF, H', ⟨by have := AE.out; omega⟩, zD⟩
       ·rw [if_neg c7] at H
        exact absurd H (by simp)
      ·rw [if_neg c6] at H
       exact absurd H (by simp)
     ·rw [if_neg c5] at H
      exact absurd H (by simp)
    ·rw [if_neg c4] at H; have AF : decide (AA < (l0.length : Int)) = false := decide_eq_false c4; clear c4; obtain rfl := Option.some.inj H
     go_wp2
     repeat (go_quiet (fail); try go_wp2)
     go_ret
     exact ⟨zF, zD⟩
 ·rw [if_neg c3] at H; have AB : ((l0.length : Int) == (l1.length : Int)) = false := beq_eq_false_iff_ne.mpr c3; have AC : ((l0.length : Int) != (l1.length : Int)) = true := bne_iff_ne.mpr c3
  have AD : (l0.length == l1.length) = false := by first | simpa using c3 | (simp at c3 ⊢; omega)
  obtain rfl := Option.some.inj H; go_enter Try.func69, Try.ntmps69
  go_wp2
  repeat (go_quiet (fail); try go_wp2)
  go_ret
  exact ⟨zF, zD⟩
end

/-! ### impl_StateSame: function 20 -/
def impl_StateSame.f (k : Nat) (l0_0 : List (S44)) (l0_1 : List (S58)) (l1_0 : List (S44)) (l1_1 : List (S58)) : Option (Bool) := (impl_Item.f k l0_0 l1_0).bind fun t595 => (if t595 = true then ((impl_Floor.f k l0_1 l1_1).bind fun t596 => (some t596)) else (some false))
theorem impl_StateSame.mono : ∀ a0 a1 a2 a3 k, LeO (impl_StateSame.f k a0 a1 a2 a3) (impl_StateSame.f (k + 1) a0 a1 a2 a3) := by
 intro a0 a1 a2 a3 k
 unfold impl_StateSame.f
 repeat' first | (with_reducible first | exact LeO.refl _ | exact LeO.none _ | refine LeO.ite ?_ ?_ | refine LeO.bind ?_ (fun _ => ?_) | apply impl_Floor.mono | apply impl_Item.mono) | apply impl_Floor.mono | apply impl_Item.mono | exact LeO.none _ | refine LeO.ite ?_ ?_ | refine LeO.bind ?_ (fun _ => ?_)
set_option maxHeartbeats 8000000 in
set_option maxRecDepth 100000 in
theorem impl_StateSame.calls (k : Nat) (A0_0 : Option Addr) (c0_0 : Nat) (l0_0 : List (S44)) (A0_1 : Option Addr) (c0_1 : Nat) (l0_1 : List (S58)) (A1_0 : Option Addr) (c1_0 : Nat) (l1_0 : List (S44)) (A1_1 : Option Addr) (c1_1 : Nat) (l1_1 : List (S58)) (r : Bool) (w : World) (hr0_0 : Kd.C k44 w A0_0 l0_0.length l0_0) (hc0_0 : l0_0.length ≤ c0_0) (hr0_1 : Kd.C k58 w A0_1 l0_1.length l0_1) (hc0_1 : l0_1.length ≤ c0_1) (hr1_0 : Kd.C k44 w A1_0 l1_0.length l1_0) (hc1_0 : l1_0.length ≤ c1_0) (hr1_1 : Kd.C k58 w A1_1 l1_1.length l1_1) (hc1_1 : l1_1.length ≤ c1_1) (h : impl_StateSame.f k l0_0 l0_1 l1_0 l1_1 = some r) :
  Calls Try.prog 20 #[.agg #[.slice A0_0 l0_0.length c0_0, .slice A0_1 l0_1.length c0_1], .agg #[.slice A1_0 l1_0.length c1_0, .slice A1_1 l1_1.length c1_1]] w fun e w' => e = .returned (.bool r) ∧ Below w.heap.size w w' := by
 have hu27 := Try.underlying27; have HR0_0 := zm hr0_0; have HC0_0 := zm hc0_0; clear hr0_0 hc0_0; have HR0_1 := zm hr0_1; have HC0_1 := zm hc0_1; clear hr0_1 hc0_1; have HR1_0 := zm hr1_0; have HC1_0 := zm hc1_0; clear hr1_0 hc1_0; have HR1_1 := zm hr1_1; have HC1_1 := zm hc1_1; clear hr1_1 hc1_1; have HB := zm (Below.refl w.heap.size w); have H : ((impl_Item.f k l0_0 l1_0).bind fun AE => (if AE = true then ((impl_Floor.f k l0_1 l1_1).bind fun AF => (some AF)) else (some false))) = some r := h; clear h; replace H := Option.bind_eq_some_iff.mp H; obtain ⟨AE, AM, H⟩ := H; (try dsimp only at H); have A3 := zm AM; clear AM
 by_cases c4 : AE = true
 ·subst c4; rw [if_pos rfl] at H; replace H := Option.bind_eq_some_iff.mp H; obtain ⟨AF, AN, H⟩ := H; (try dsimp only at H); have A5 := zm AN; clear AN; obtain rfl := Option.some.inj H; go_enter Try.func20, Try.ntmps20
  go_wp2_with (first | ((with_reducible refine gate_dst (N := 2) rfl ?_); refine zbox 2 #[.slice A0_0 l0_0.length c0_0, .slice A0_1 l0_1.length c0_1] 27 ?_; intro AK hg w6 hbox hb; have AA := zm (hbox); have AI := zge w hg zB; have AG := zge w hg zB; replace HB := zm (below_step zB hb); clear hb hbox hg) | ((with_reducible refine gate_dst (N := 3) rfl ?_); refine zbox 3 #[.slice A1_0 l1_0.length c1_0, .slice A1_1 l1_1.length c1_1] 27 ?_; intro AL hg w7 hbox hb; have AD := zm (hbox); have AJ := zge w hg zB; have AH := zge w hg zB; replace HB := zm (below_step zB hb); have AB := zlt hg (zb AA); have AC := zgt hg (zb AA); replace AA := zy AA hb; clear hb hbox hg; have Ag := AB.out; have Ah := AC.out; obtain ⟨Aa, Ab, Ac, Ad⟩ := zc2 AA; obtain ⟨AO, AP, AU, AV⟩ := zc2 AD) | ((with_reducible refine gate_callee (f := 68) rfl ?_); refine zg (some 9) #[.slice A0_0 l0_0.length c0_0, .slice A1_0 l1_0.length c1_0] Try.func68 ?_; (with_reducible refine (impl_Item.calls k _ _ l0_0 _ _ l1_0 true _ (zk (Kd.C_below HR0_0.out HB.out)) HC0_0.out (zk (Kd.C_below HR1_0.out HB.out)) HC1_0.out A3.out).mono ?_); rintro e w' ⟨rfl, ⟨nd, rfl⟩⟩; refine ⟨_, rfl, ?_⟩) | (go_at_call 69; (with_reducible refine (impl_Floor.calls k _ _ l0_1 _ _ l1_1 AF _ (zk (Kd.C_below HR0_1.out zB)) HC0_1.out (zk (Kd.C_below HR1_1.out zB)) HC1_1.out A5.out).mono ?_); rintro e w' ⟨rfl, ⟨nd, rfl⟩⟩))
  go_ret
  exact ⟨zE, zB⟩
 ·replace c4 := Bool.eq_false_iff.mpr c4; subst c4; rw [zff] at H; obtain rfl := Option.some.inj H; go_enter Try.func20, Try.ntmps20
  go_wp2_with (first | ((with_reducible refine gate_dst (N := 2) rfl ?_); refine zbox 2 #[.slice A0_0 l0_0.length c0_0, .slice A0_1 l0_1.length c0_1] 27 ?_; intro AK hg Ai hbox hb; have AA := zm (hbox); have AI := zge w hg zB; have AG := zge w hg zB; replace HB := zm (below_step zB hb); clear hb hbox hg) | ((with_reducible refine gate_dst (N := 3) rfl ?_); refine zbox 3 #[.slice A1_0 l1_0.length c1_0, .slice A1_1 l1_1.length c1_1] 27 ?_; intro AL hg Aj hbox hb; have AD := zm (hbox); have AJ := zge w hg zB; have AH := zge w hg zB; replace HB := zm (below_step zB hb); have AB := zlt hg (zb AA); have AC := zgt hg (zb AA); replace AA := zy AA hb; clear hb hbox hg; have Ae := AB.out; have Af := AC.out; obtain ⟨AQ, AR, AW, AX⟩ := zc2 AA; obtain ⟨AS, AT, AY, AZ⟩ := zc2 AD) | ((with_reducible refine gate_callee (f := 68) rfl ?_); refine zg (some 9) #[.slice A0_0 l0_0.length c0_0, .slice A1_0 l1_0.length c1_0] Try.func68 ?_; (with_reducible refine (impl_Item.calls k _ _ l0_0 _ _ l1_0 false _ (zk (Kd.C_below HR0_0.out HB.out)) HC0_0.out (zk (Kd.C_below HR1_0.out HB.out)) HC1_0.out A3.out).mono ?_); rintro e w' ⟨rfl, ⟨nd, rfl⟩⟩; refine ⟨_, rfl, ?_⟩))
  go_ret
  exact ⟨zE, zB⟩

end Go.Proofs.Ytnmofppbijmhoaa.P
