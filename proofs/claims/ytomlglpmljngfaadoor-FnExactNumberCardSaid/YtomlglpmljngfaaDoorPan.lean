-- by a program of this session, for this seat
import Derived.Test.YtomlglpmljngfaaDoorZ
import Derived.Test.YtomlglpmljngfaaDoorP0
import Derived.Test.YtomlglpmljngfaaDoorPaa
namespace Go.Proofs.YtomlglpmljngfaaDoor.P
open Go.RowKit Go.Proofs.YtomlglpmljngfaaDoorW.PrintWords Go.Proofs.YtomlglpmljngfaaDoorW.PrintLast Go.Proofs.YtomlglpmljngfaaDoorW.PrintMore Go.Proofs.YtomlglpmljngfaaDoor.Z
attribute [local go_sem] max2_int min2_int max_two min_two max_three min_three max_four min_four   -- for this text's walks alone
set_option linter.unusedVariables false
set_option linter.unusedSimpArgs false

/-! ### spec_Number: function 26 -/
mutual
def spec_Number.j0 : Nat → ByteArray → Bool → Option (Int × Bool)
 | 0, _, _ => none
 | k + 1, x0, x13 => if x13 = true then (some (0, false)) else (spec_Number.l0 k x0 0 0)
def spec_Number.l0 : Nat → ByteArray → Int → Int → Option (Int × Bool)
 | 0, _, _, _ => none
 | k + 1, x0, x4, x5 => if x5 < (x0.size : Int) then (if 0 ≤ x5 then (if (bt x0 x5) < 48 then (some (0, false)) else (if (bt x0 x5) > 57 then (some (0, false)) else (spec_Number.l0 k x0 (wrap64 ((wrap64 ((wrap64 (10 * x4)) + (wrap64 (bt x0 x5)))) - 48)) (wrap64 (x5 + 1))))) else (none)) else ((spec_Digits.f k x4).bind fun t306 => (if t306.toList = x0.toList then (some (x4, true)) else (some (0, false))))
end
def spec_Number.f (k : Nat) (a0 : ByteArray) : Option (Int × Bool) := if (a0.size : Int) < 1 then (spec_Number.j0 k a0 true) else (spec_Number.j0 k a0 (decide ((a0.size : Int) > 6)))
theorem spec_Number.mono_l : ∀ k, (∀ y0 y1, LeO (spec_Number.j0 k y0 y1) (spec_Number.j0 (k + 1) y0 y1)) ∧ (∀ y0 y1 y2, LeO (spec_Number.l0 k y0 y1 y2) (spec_Number.l0 (k + 1) y0 y1 y2))
 | 0 => ⟨fun _ _ r h => by simp [spec_Number.j0] at h, fun _ _ _ r h => by simp [spec_Number.l0] at h⟩
 | k + 1 => by
  obtain ⟨ih0, ih1⟩ := spec_Number.mono_l k
  refine ⟨?_, ?_⟩
  ·intro y0 y1
   unfold spec_Number.j0
   repeat' first | (with_reducible first | exact LeO.refl _ | exact LeO.none _ | refine LeO.ite ?_ ?_ | refine LeO.bind ?_ (fun _ => ?_) | apply ih0 | apply ih1 | apply spec_Digits.mono) | apply ih0 | apply ih1 | apply spec_Digits.mono | exact LeO.none _ | refine LeO.ite ?_ ?_ | refine LeO.bind ?_ (fun _ => ?_)
  ·intro y0 y1 y2
   unfold spec_Number.l0
   repeat' first | (with_reducible first | exact LeO.refl _ | exact LeO.none _ | refine LeO.ite ?_ ?_ | refine LeO.bind ?_ (fun _ => ?_) | apply ih0 | apply ih1 | apply spec_Digits.mono) | apply ih0 | apply ih1 | apply spec_Digits.mono | exact LeO.none _ | refine LeO.ite ?_ ?_ | refine LeO.bind ?_ (fun _ => ?_)
theorem spec_Number.mono : ∀ a0 k, LeO (spec_Number.f k a0) (spec_Number.f (k + 1) a0) := by
 intro a0 k; obtain ⟨ih0, ih1⟩ := spec_Number.mono_l k
 unfold spec_Number.f
 repeat' first | (with_reducible first | exact LeO.refl _ | exact LeO.none _ | refine LeO.ite ?_ ?_ | refine LeO.bind ?_ (fun _ => ?_) | apply ih0 | apply ih1 | apply spec_Digits.mono) | apply ih0 | apply ih1 | apply spec_Digits.mono | exact LeO.none _ | refine LeO.ite ?_ ?_ | refine LeO.bind ?_ (fun _ => ?_)
set_option maxHeartbeats 8000000 in
set_option maxRecDepth 100000 in
theorem spec_Number.calls (k : Nat) (a0 : ByteArray) (r1 : Int) (r2 : Bool) (w : World) (h : spec_Number.f k a0 = some (r1, r2)) :
  Calls Tryd.prog 26 #[.string a0] w fun e w' => e = .returned (.tuple #[.int .i64 r1, .bool r2]) ∧ Below w.heap.size w w' := by
 have HB := zm (Below.refl w.heap.size w); have H : (if (a0.size : Int) < 1 then (spec_Number.j0 k a0 true) else (spec_Number.j0 k a0 (decide ((a0.size : Int) > 6)))) = some (r1, r2) := h; clear h; have AI := zm H; clear H; go_enter Tryd.func26, Tryd.ntmps26
 go_upto_region 1 with (fail)
 go_cut [13] (fun v13 wc => ∃ (kq : Nat) (AD : Bool), v13 = .bool AD ∧ Aside0 (spec_Number.j0 kq a0 AD = some (r1, r2)) ∧ Aside0 (kq ≤ k) ∧ Aside0 (Below w.heap.size w wc))
 case first =>
  have H := AI.out; clear AI
  by_cases c3 : (a0.size : Int) < 1
  ·rw [if_pos c3] at H; have AF : decide ((a0.size : Int) < 1) = true := decide_eq_true c3; have AR : decide (a0.size < 1) = true := decide_eq_true (by omega); clear c3
   (first | rw [AF] | (simp only [i64_w, i32_w]; rw [AF]) | skip)
   have H' := zm H
   clear H
   go_wp2
   go_meet
   case rel => exact ⟨_, (true), zF, H', ⟨zO⟩, ⟨zB⟩⟩
  ·rw [if_neg c3] at H; have AF : decide ((a0.size : Int) < 1) = false := decide_eq_false c3; have AR : decide (a0.size < 1) = false := decide_eq_false (by omega); clear c3
   (first | rw [AF] | (simp only [i64_w, i32_w]; rw [AF]) | skip)
   have H' := zm H
   clear H
   go_wp2
   go_meet
   case rel => exact ⟨_, (decide ((a0.size : Int) > 6)), zF, H', ⟨zO⟩, ⟨zB⟩⟩
 case rest =>
  clear AI; obtain ⟨kq, AD, rfl, HA, AN, HB⟩ := hcut
  cases kq with
  | zero => exact absurd HA.out (by simp [spec_Number.j0])
  | succ AQ =>
   have H := HA.out; clear HA; simp only [spec_Number.j0] at H
   by_cases c4 : AD = true
   ·subst c4; rw [if_pos rfl] at H; simp only [Option.some.injEq, Prod.mk.injEq] at H; obtain ⟨rfl, rfl⟩ := H
    go_wp2
    go_ret2
    exact ⟨zE, zB⟩
   ·replace c4 := Bool.eq_false_iff.mpr c4; subst c4; rw [zff] at H
    have H' := zm H
    clear H
    go_wp2
    go_loopg [4, 5] AQ (fun kq v4 v5 w' => ∃ (AB : Int) (AA : Int), v4 = .int .i64 AB ∧ v5 = .int .i64 AA ∧ Aside0 (spec_Number.l0 kq a0 AB AA = some (r1, r2)) ∧ Aside0 (kq ≤ AQ) ∧ Aside0 (Below w.heap.size w w'))
    case atStart => exact ⟨(0), (0), zF, zF, H', ⟨Nat.le_refl _⟩, ⟨zB⟩⟩
    case round =>
     clear H'; (try clear c4); obtain ⟨AB, AA, rfl, rfl, HA, AO, HB⟩ := hrel
     cases gk with
     | zero => exact absurd HA.out (by simp [spec_Number.l0])
     | succ k2 =>
      have H := HA.out; clear HA; simp only [spec_Number.l0] at H
      by_cases c5 : AA < (a0.size : Int)
      ·rw [if_pos c5] at H; have AS : decide (AA < (a0.size : Int)) = true := decide_eq_true c5; clear c5
       by_cases c6 : 0 ≤ AA
       ·rw [if_pos c6] at H; have AV : decide (0 ≤ AA) = true := decide_eq_true c6; clear c6
        by_cases c8 : (bt a0 AA) < 48
        ·rw [if_pos c8] at H; have AT : decide ((bt a0 AA) < 48) = true := decide_eq_true c8; clear c8; simp only [Option.some.injEq, Prod.mk.injEq] at H; obtain ⟨rfl, rfl⟩ := H; have p7 : 0 ≤ (AA : Int) := zd; have q7 : AA < (a0.size : Int) := zd; have AP := bt_at a0 AA; replace p7 := eq_true p7; replace q7 := eq_true q7
         go_wp2
         go_ret2
         exact ⟨zE, zB⟩
        ·rw [if_neg c8] at H; have AT : decide ((bt a0 AA) < 48) = false := decide_eq_false c8; clear c8
         by_cases AG : (bt a0 AA) > 57
         ·rw [if_pos AG] at H; have AJ : decide (57 < (bt a0 AA)) = true := decide_eq_true AG; clear AG; simp only [Option.some.injEq, Prod.mk.injEq] at H; obtain ⟨rfl, rfl⟩ := H; have p7 : 0 ≤ (AA : Int) := zd; have q7 : AA < (a0.size : Int) := zd; have AP := bt_at a0 AA; replace p7 := eq_true p7; replace q7 := eq_true q7; have p9 : 0 ≤ (AA : Int) := zd; have q9 : AA < (a0.size : Int) := zd; have AU := bt_at a0 AA; replace p9 := eq_true p9; replace q9 := eq_true q9
          go_wp2
          go_ret2
          exact ⟨zE, zB⟩
         ·rw [if_neg AG] at H; have AJ : decide (57 < (bt a0 AA)) = false := decide_eq_false AG; clear AG
          have H' := zm H
          clear H; have p7 : 0 ≤ (AA : Int) := zd; have q7 : AA < (a0.size : Int) := zd; have AP := bt_at a0 AA; replace p7 := eq_true p7; replace q7 := eq_true q7; have p9 : 0 ≤ (AA : Int) := zd; have q9 : AA < (a0.size : Int) := zd; have AU := bt_at a0 AA; replace p9 := eq_true p9; replace q9 := eq_true q9; have p11 : 0 ≤ (AA : Int) := zd; have q11 : AA < (a0.size : Int) := zd; have AW := bt_at a0 AA; replace p11 := eq_true p11; replace q11 := eq_true q11
          go_wp2
          go_roundg k2
          case measure => have := AN.out; have := AO.out; omega
          case rel => exact ⟨(wrap64 ((wrap64 ((wrap64 (10 * AB)) + (wrap64 (bt a0 AA)))) - 48)), (wrap64 (AA + 1)), zF, zF, H', ⟨by have := AN.out; have := AO.out; omega⟩, ⟨zB⟩⟩
       ·rw [if_neg c6] at H
        exact absurd H (by simp)
      ·rw [if_neg c5] at H; have AS : decide (AA < (a0.size : Int)) = false := decide_eq_false c5; clear c5; replace H := Option.bind_eq_some_iff.mp H; obtain ⟨AC, AH, H⟩ := H; (try dsimp only at H); have AM := zm AH; clear AH
       by_cases AE : AC.toList = a0.toList
       ·rw [if_pos AE] at H; have AK : (AC.toList == a0.toList) = true := beq_iff_eq.mpr AE; have AL : (AC.toList != a0.toList) = false := bne_eq_false_iff_eq.mpr AE; clear AE; simp only [Option.some.injEq, Prod.mk.injEq] at H; obtain ⟨rfl, rfl⟩ := H
        go_wp2_with (first | ((with_reducible refine gate_callee (f := 10) rfl ?_); refine zg (some 39) #[.int .i64 AB] Tryd.func10 ?_; (with_reducible refine (spec_Digits.calls k2 AB AC _ AM.out).mono ?_); rintro e AX ⟨rfl, hb⟩; refine ⟨_, rfl, ?_⟩; replace HB := zm (below_step zB hb); clear hb))
        go_ret2
        exact ⟨zE, zB⟩
       ·rw [if_neg AE] at H; have AK : (AC.toList == a0.toList) = false := beq_eq_false_iff_ne.mpr AE; have AL : (AC.toList != a0.toList) = true := bne_iff_ne.mpr AE; simp only [Option.some.injEq, Prod.mk.injEq] at H; obtain ⟨rfl, rfl⟩ := H
        go_wp2_with (first | ((with_reducible refine gate_callee (f := 10) rfl ?_); refine zg (some 39) #[.int .i64 AB] Tryd.func10 ?_; (with_reducible refine (spec_Digits.calls k2 AB AC _ AM.out).mono ?_); rintro e AY ⟨rfl, hb⟩; refine ⟨_, rfl, ?_⟩; replace HB := zm (below_step zB hb); clear hb))
        go_ret2
        exact ⟨zE, zB⟩

/-! ### impl_Number: function 27, by hand -/
def impl_Number.f (a0 : ByteArray) : Option (Int × Bool) := if a0.size ≤ 281474976710656 then (some (Go.Proofs.YtomlglpmljngfaaDoor.HandIo.numR a0)) else none
theorem impl_Number.calls (a0 : ByteArray) (r1 : Int) (r2 : Bool) (w : World) (hT : Go.Proofs.YtomlglpmljngfaaDoor.HandIo.TN w) (h : impl_Number.f a0 = some (r1, r2)) :
 Calls Tryd.prog 27 #[.string a0] w fun e w' => e = .returned (.tuple #[.int .i64 r1, .bool r2]) ∧ Below w.heap.size w w' := by
 by_cases c : a0.size ≤ 281474976710656
 ·rw [impl_Number.f, if_pos c] at h; have h2 := Option.some.inj h; have h3 := Go.Proofs.YtomlglpmljngfaaDoor.HandIo.number a0 c w hT; rw [h2] at h3; exact h3
 ·rw [impl_Number.f, if_neg c] at h; cases h

end Go.Proofs.YtomlglpmljngfaaDoor.P
