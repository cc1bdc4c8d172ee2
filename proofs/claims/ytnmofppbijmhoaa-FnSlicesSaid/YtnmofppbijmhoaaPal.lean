-- by a program of this session, for this seat
import Derived.Test.YtnmofppbijmhoaaZ
import Derived.Test.YtnmofppbijmhoaaP0
namespace Go.Proofs.Ytnmofppbijmhoaa.P
open Go.RowKit Go.Proofs.YtnmofppbijmhoaaW.PrintWords Go.Proofs.YtnmofppbijmhoaaW.PrintLast Go.Proofs.YtnmofppbijmhoaaW.PrintMore Go.Proofs.Ytnmofppbijmhoaa.Z
attribute [local go_sem] max2_int min2_int max_two min_two max_three min_three max_four min_four   -- for this text's walks alone
set_option linter.unusedVariables false
set_option linter.unusedSimpArgs false

/-! ### cmp_Or_int: function 103 -/
def cmp_Or_int.l0 : Nat → Int → List Int → Int → Int → Option (Int)
 | 0, _, _, _, _ => none
 | k + 1, x3, x6, x7, x8 => if x8 < x7 then (if 0 ≤ x8 then (if x8 < (x6.length : Int) then (if (rd x6 x8) = x3 then (cmp_Or_int.l0 k x3 x6 x7 (wrap64 (x8 + 1))) else (some (rd x6 x8))) else (none)) else (none)) else (some x3)
def cmp_Or_int.f (k : Nat) (l0 : List Int) : Option (Int) := cmp_Or_int.l0 k 0 l0 (l0.length : Int) 0
theorem cmp_Or_int.mono_l : ∀ k, (∀ y0 y1 y2 y3, LeO (cmp_Or_int.l0 k y0 y1 y2 y3) (cmp_Or_int.l0 (k + 1) y0 y1 y2 y3))
 | 0 => fun _ _ _ _ r h => by simp [cmp_Or_int.l0] at h
 | k + 1 => by
  have ih0 := cmp_Or_int.mono_l k
  ·intro y0 y1 y2 y3
   unfold cmp_Or_int.l0
   repeat' first | (with_reducible first | exact LeO.refl _ | exact LeO.none _ | refine LeO.ite ?_ ?_ | refine LeO.bind ?_ (fun _ => ?_) | apply ih0) | apply ih0 | exact LeO.none _ | refine LeO.ite ?_ ?_ | refine LeO.bind ?_ (fun _ => ?_)
theorem cmp_Or_int.mono : ∀ a0 k, LeO (cmp_Or_int.f k a0) (cmp_Or_int.f (k + 1) a0) := by
 intro a0 k; have ih0 := cmp_Or_int.mono_l k
 unfold cmp_Or_int.f
 repeat' first | (with_reducible first | exact LeO.refl _ | exact LeO.none _ | refine LeO.ite ?_ ?_ | refine LeO.bind ?_ (fun _ => ?_) | apply ih0) | apply ih0 | exact LeO.none _ | refine LeO.ite ?_ ?_ | refine LeO.bind ?_ (fun _ => ?_)
set_option maxHeartbeats 8000000 in
set_option maxRecDepth 100000 in
theorem cmp_Or_int.calls (k : Nat) (A0 : Option Addr) (c0 : Nat) (l0 : List Int) (r : Int) (w : World) (hr0 : Kd.C (Kd.int .i64) w A0 l0.length l0) (hc0 : l0.length ≤ c0) (h : cmp_Or_int.f k l0 = some r) :
  Calls Try.prog 103 #[.slice A0 l0.length c0] w fun e w' => e = .returned (.int .i64 r) ∧ Drawn0 w w' := by
 have HR0 := zm hr0; have AH := zm hc0; clear hr0 hc0; have H : (cmp_Or_int.l0 k 0 l0 (l0.length : Int) 0) = some r := h; clear h
 have H' := zm H
 clear H; go_enter Try.func103, Try.ntmps103
 go_wp2
 go_loopg [8] k (fun kq v8 w' => ∃ (AA : Int), v8 = .int .i64 AA ∧ Aside0 (cmp_Or_int.l0 kq 0 l0 (l0.length : Int) AA = some r) ∧ Aside0 (kq ≤ k) ∧ Drawn0 w w')
 case atStart => exact ⟨(0), zF, H', ⟨Nat.le_refl _⟩, zD⟩
 case round =>
  clear H'; obtain ⟨AA, rfl, HA, AB, ⟨m1, rfl⟩⟩ := hrel
  cases gk with
  | zero => exact absurd HA.out (by simp [cmp_Or_int.l0])
  | succ k1 =>
   have H := HA.out; clear HA; simp only [cmp_Or_int.l0] at H
   by_cases c2 : AA < (l0.length : Int)
   ·rw [if_pos c2] at H; have AC : decide (AA < (l0.length : Int)) = true := decide_eq_true c2; clear c2
    by_cases c3 : 0 ≤ AA
    ·rw [if_pos c3] at H; have AF : decide (0 ≤ AA) = true := decide_eq_true c3; clear c3
     by_cases c4 : AA < (l0.length : Int)
     ·rw [if_pos c4] at H; have AG : decide (AA < (l0.length : Int)) = true := decide_eq_true c4; clear c4
      by_cases c5 : (rd l0 AA) = 0
      ·rw [if_pos c5] at H; have AD : ((rd l0 AA) == 0) = true := beq_iff_eq.mpr c5; have AE : ((rd l0 AA) != 0) = false := bne_eq_false_iff_eq.mpr c5; clear c5
       have H' := zm H
       clear H; have p455 : 0 ≤ (AA : Int) := zd; have q455 : AA < (l0.length : Int) := zd; obtain ⟨ad455, e455, hx455_0⟩ := Kd.at_int HR0.out AA p455 q455; cases e455; replace p455 := eq_true p455; replace q455 := eq_true q455
       go_wp2
       go_roundg k1
       case measure => have := AB.out; omega
       case rel => exact ⟨(wrap64 (AA + 1)), zF, H', ⟨by have := AB.out; omega⟩, zD⟩
      ·rw [if_neg c5] at H; have AD : ((rd l0 AA) == 0) = false := beq_eq_false_iff_ne.mpr c5; have AE : ((rd l0 AA) != 0) = true := bne_iff_ne.mpr c5; obtain rfl := Option.some.inj H; have p455 : 0 ≤ (AA : Int) := zd; have q455 : AA < (l0.length : Int) := zd; obtain ⟨ad455, e455, hx455_0⟩ := Kd.at_int HR0.out AA p455 q455; cases e455; replace p455 := eq_true p455; replace q455 := eq_true q455
       go_wp2
       go_ret
       exact ⟨zF, zD⟩
     ·rw [if_neg c4] at H
      exact absurd H (by simp)
    ·rw [if_neg c3] at H
     exact absurd H (by simp)
   ·rw [if_neg c2] at H; have AC : decide (AA < (l0.length : Int)) = false := decide_eq_false c2; clear c2; obtain rfl := Option.some.inj H
    go_wp2
    go_ret
    exact ⟨zF, zD⟩

/-! ### cmp_isNaN_int: function 116 -/
def cmp_isNaN_int.f (a0 : Int) : Option (Bool) := some (a0 != a0)
set_option maxHeartbeats 8000000 in
set_option maxRecDepth 100000 in
theorem cmp_isNaN_int.calls (a0 : Int) (r : Bool) (w : World) (h : cmp_isNaN_int.f a0 = some r) :
  Calls Try.prog 116 #[.int .i64 a0] w fun e w' => e = .returned (.bool r) ∧ Drawn0 w w' := by
 have H : (some (a0 != a0)) = some r := h; clear h; obtain rfl := Option.some.inj H; go_enter Try.func116, Try.ntmps116
 go_wp2
 go_ret
 exact ⟨zF, zD⟩

/-! ### cmp_Compare_int: function 104 -/
def cmp_Compare_int.f (a0 : Int) (a1 : Int) : Option (Int) := (cmp_isNaN_int.f a0).bind fun t456 => ((cmp_isNaN_int.f a1).bind fun t457 => (if t456 = true then (if t457 = true then (some 0) else (some (-1))) else (if t457 = true then (some 1) else (if a0 < a1 then (some (-1)) else (if a0 > a1 then (some 1) else (some 0))))))
set_option maxHeartbeats 8000000 in
set_option maxRecDepth 100000 in
theorem cmp_Compare_int.calls (a0 : Int) (a1 : Int) (r : Int) (w : World) (h : cmp_Compare_int.f a0 a1 = some r) :
  Calls Try.prog 104 #[.int .i64 a0, .int .i64 a1] w fun e w' => e = .returned (.int .i64 r) ∧ Drawn0 w w' := by
 have H : ((cmp_isNaN_int.f a0).bind fun AB => ((cmp_isNaN_int.f a1).bind fun AA => (if AB = true then (if AA = true then (some 0) else (some (-1))) else (if AA = true then (some 1) else (if a0 < a1 then (some (-1)) else (if a0 > a1 then (some 1) else (some 0))))))) = some r := h; clear h; replace H := Option.bind_eq_some_iff.mp H; obtain ⟨AB, AC, H⟩ := H; (try dsimp only at H); have A3 := zm AC; clear AC; replace H := Option.bind_eq_some_iff.mp H; obtain ⟨AA, AD, H⟩ := H; (try dsimp only at H); have A4 := zm AD; clear AD
 by_cases c5 : AB = true
 ·subst c5; rw [if_pos rfl] at H
  by_cases c6 : AA = true
  ·subst c6; rw [if_pos rfl] at H; obtain rfl := Option.some.inj H; go_enter Try.func104, Try.ntmps104
   go_wp2_with (first | ((with_reducible refine gate_callee (f := 116) rfl ?_); refine zg (some 8) #[.int .i64 a0] Try.func116 ?_; (with_reducible refine (cmp_isNaN_int.calls a0 true _ A3.out).mono ?_); rintro e w' ⟨rfl, ⟨nd, rfl⟩⟩; refine ⟨_, rfl, ?_⟩) | ((with_reducible refine gate_callee (f := 116) rfl ?_); refine zg (some 10) #[.int .i64 a1] Try.func116 ?_; (with_reducible refine (cmp_isNaN_int.calls a1 true _ A4.out).mono ?_); rintro e w' ⟨rfl, ⟨nd, rfl⟩⟩; refine ⟨_, rfl, ?_⟩))
   go_ret
   exact ⟨zF, zD⟩
  ·replace c6 := Bool.eq_false_iff.mpr c6; subst c6; rw [zff] at H; obtain rfl := Option.some.inj H; go_enter Try.func104, Try.ntmps104
   go_wp2_with (first | ((with_reducible refine gate_callee (f := 116) rfl ?_); refine zg (some 8) #[.int .i64 a0] Try.func116 ?_; (with_reducible refine (cmp_isNaN_int.calls a0 true _ A3.out).mono ?_); rintro e w' ⟨rfl, ⟨nd, rfl⟩⟩; refine ⟨_, rfl, ?_⟩) | ((with_reducible refine gate_callee (f := 116) rfl ?_); refine zg (some 10) #[.int .i64 a1] Try.func116 ?_; (with_reducible refine (cmp_isNaN_int.calls a1 false _ A4.out).mono ?_); rintro e w' ⟨rfl, ⟨nd, rfl⟩⟩; refine ⟨_, rfl, ?_⟩))
   go_ret
   exact ⟨zF, zD⟩
 ·replace c5 := Bool.eq_false_iff.mpr c5; subst c5; rw [zff] at H
  by_cases c7 : AA = true
  ·subst c7; rw [if_pos rfl] at H; obtain rfl := Option.some.inj H; go_enter Try.func104, Try.ntmps104
   go_wp2_with (first | ((with_reducible refine gate_callee (f := 116) rfl ?_); refine zg (some 8) #[.int .i64 a0] Try.func116 ?_; (with_reducible refine (cmp_isNaN_int.calls a0 false _ A3.out).mono ?_); rintro e w' ⟨rfl, ⟨nd, rfl⟩⟩; refine ⟨_, rfl, ?_⟩) | ((with_reducible refine gate_callee (f := 116) rfl ?_); refine zg (some 10) #[.int .i64 a1] Try.func116 ?_; (with_reducible refine (cmp_isNaN_int.calls a1 true _ A4.out).mono ?_); rintro e w' ⟨rfl, ⟨nd, rfl⟩⟩; refine ⟨_, rfl, ?_⟩))
   go_ret
   exact ⟨zF, zD⟩
  ·replace c7 := Bool.eq_false_iff.mpr c7; subst c7; rw [zff] at H
   by_cases c8 : a0 < a1
   ·rw [if_pos c8] at H; have AE : decide (a0 < a1) = true := decide_eq_true c8; clear c8; obtain rfl := Option.some.inj H; go_enter Try.func104, Try.ntmps104
    go_wp2_with (first | ((with_reducible refine gate_callee (f := 116) rfl ?_); refine zg (some 8) #[.int .i64 a0] Try.func116 ?_; (with_reducible refine (cmp_isNaN_int.calls a0 false _ A3.out).mono ?_); rintro e w' ⟨rfl, ⟨nd, rfl⟩⟩; refine ⟨_, rfl, ?_⟩) | ((with_reducible refine gate_callee (f := 116) rfl ?_); refine zg (some 10) #[.int .i64 a1] Try.func116 ?_; (with_reducible refine (cmp_isNaN_int.calls a1 false _ A4.out).mono ?_); rintro e w' ⟨rfl, ⟨nd, rfl⟩⟩; refine ⟨_, rfl, ?_⟩))
    go_ret
    exact ⟨zF, zD⟩
   ·rw [if_neg c8] at H; have AE : decide (a0 < a1) = false := decide_eq_false c8; clear c8
    by_cases c9 : a0 > a1
    ·rw [if_pos c9] at H; have AF : decide (a1 < a0) = true := decide_eq_true c9; clear c9; obtain rfl := Option.some.inj H; go_enter Try.func104, Try.ntmps104
     go_wp2_with (first | ((with_reducible refine gate_callee (f := 116) rfl ?_); refine zg (some 8) #[.int .i64 a0] Try.func116 ?_; (with_reducible refine (cmp_isNaN_int.calls a0 false _ A3.out).mono ?_); rintro e w' ⟨rfl, ⟨nd, rfl⟩⟩; refine ⟨_, rfl, ?_⟩) | ((with_reducible refine gate_callee (f := 116) rfl ?_); refine zg (some 10) #[.int .i64 a1] Try.func116 ?_; (with_reducible refine (cmp_isNaN_int.calls a1 false _ A4.out).mono ?_); rintro e w' ⟨rfl, ⟨nd, rfl⟩⟩; refine ⟨_, rfl, ?_⟩))
     go_ret
     exact ⟨zF, zD⟩
    ·rw [if_neg c9] at H; have AF : decide (a1 < a0) = false := decide_eq_false c9; clear c9; obtain rfl := Option.some.inj H; go_enter Try.func104, Try.ntmps104
     go_wp2_with (first | ((with_reducible refine gate_callee (f := 116) rfl ?_); refine zg (some 8) #[.int .i64 a0] Try.func116 ?_; (with_reducible refine (cmp_isNaN_int.calls a0 false _ A3.out).mono ?_); rintro e w' ⟨rfl, ⟨nd, rfl⟩⟩; refine ⟨_, rfl, ?_⟩) | ((with_reducible refine gate_callee (f := 116) rfl ?_); refine zg (some 10) #[.int .i64 a1] Try.func116 ?_; (with_reducible refine (cmp_isNaN_int.calls a1 false _ A4.out).mono ?_); rintro e w' ⟨rfl, ⟨nd, rfl⟩⟩; refine ⟨_, rfl, ?_⟩))
     go_ret
     exact ⟨zF, zD⟩

/-! ### strings_Compare: function 105 -/
def strings_Compare.f (a0 : ByteArray) (a1 : ByteArray) : Option (Int) := some (Lib.compareBytes a0.data.toList a1.data.toList)
theorem strings_Compare.calls (a0 : ByteArray) (a1 : ByteArray) (r : Int) (w : World) (h : strings_Compare.f a0 a1 = some r) :
  Calls Try.prog 105 #[.string a0, .string a1] w fun e w' => e = .returned (.int .i64 r) ∧ Drawn0 w w' := by
 refine (Go.Proofs.Ytnmofppbijmhoaa.HandCmp.strings_Compare a0 a1 w).mono ?_
 rintro e w' ⟨rfl, rfl⟩
 exact ⟨by rw [Option.some.inj h], Drawn0.refl _⟩

/-! ### impl_EntryCmp: function 71 -/
def impl_EntryCmp.f (k : Nat) (a0_0 : Int) (a0_1 : Int) (a0_2 : Int) (a0_3 : Int) (a0_4 : ByteArray) (a1_0 : Int) (a1_1 : Int) (a1_2 : Int) (a1_3 : Int) (a1_4 : ByteArray) : Option (Int) := (cmp_Compare_int.f a0_0 a1_0).bind fun t460 => ((cmp_Compare_int.f a0_1 a1_1).bind fun t461 => ((cmp_Compare_int.f a0_2 a1_2).bind fun t462 => ((cmp_Compare_int.f a0_3 a1_3).bind fun t463 => ((strings_Compare.f a0_4 a1_4).bind fun t464 => ((cmp_Or_int.f k (([t460, t461, t462, t463, t464] : List Int))).bind fun t468 => (some t468))))))
theorem impl_EntryCmp.mono : ∀ a0 a1 a2 a3 a4 a5 a6 a7 a8 a9 k, LeO (impl_EntryCmp.f k a0 a1 a2 a3 a4 a5 a6 a7 a8 a9) (impl_EntryCmp.f (k + 1) a0 a1 a2 a3 a4 a5 a6 a7 a8 a9) := by
 intro a0 a1 a2 a3 a4 a5 a6 a7 a8 a9 k
 unfold impl_EntryCmp.f
 repeat' first | (with_reducible first | exact LeO.refl _ | exact LeO.none _ | refine LeO.ite ?_ ?_ | refine LeO.bind ?_ (fun _ => ?_) | apply cmp_Or_int.mono) | apply cmp_Or_int.mono | exact LeO.none _ | refine LeO.ite ?_ ?_ | refine LeO.bind ?_ (fun _ => ?_)
def impl_EntryCmp.T1 : Bool × List (List Nat × List Nat) := (true, [([], []), ([0], [0]), ([], []), ([2], [2]), ([1, 3], [1, 3]), ([], []), ([5], [5]), ([], []), ([7], [7]), ([6, 8, 4], [6, 8]), ([], []), ([10], [10]), ([], []), ([12], [12]), ([11, 13, 9], [11, 13]), ([], []), ([15], [15]), ([], []), ([17], [17]), ([16, 18, 14], [16, 18]), ([], []), ([20], [20]), ([], []), ([22], [22]), ([21, 23, 19], [21, 23]), ([4, 9, 14, 19, 24], [4, 9, 14, 19, 24]), ([25, 24], [25]), ([26, 26, 0, 1, 2, 3, 4, 5, 6, 7, 8, 9, 10, 11, 12, 13, 14, 15, 16, 17, 18, 19, 20, 21, 22, 23, 24, 25, 26], [26])])
def impl_EntryCmp.B1 : List Nat := [0, 1, 0, 4, 15, 0, 32, 0, 128, 511, 0, 1024, 0, 4096, 16383, 0, 32768, 0, 131072, 524287, 0, 1048576, 0, 4194304, 16777215, 33554431, 67108863, 134217727]
theorem impl_EntryCmp.tab1 : rtab .any (opsOf Try.f71 1) = impl_EntryCmp.T1 := by kernel_rfl
theorem impl_EntryCmp.bits1 : waitsOk impl_EntryCmp.T1.2 impl_EntryCmp.B1 = true := by kernel_rfl
set_option maxHeartbeats 8000000 in
set_option maxRecDepth 100000 in
theorem impl_EntryCmp.calls (k : Nat) (a0_0 : Int) (a0_1 : Int) (a0_2 : Int) (a0_3 : Int) (a0_4 : ByteArray) (a1_0 : Int) (a1_1 : Int) (a1_2 : Int) (a1_3 : Int) (a1_4 : ByteArray) (r : Int) (w : World) (h : impl_EntryCmp.f k a0_0 a0_1 a0_2 a0_3 a0_4 a1_0 a1_1 a1_2 a1_3 a1_4 = some r) :
  Calls Try.prog 71 #[.agg #[.int .i64 a0_0, .int .i64 a0_1, .int .i64 a0_2, .int .i64 a0_3, .string a0_4], .agg #[.int .i64 a1_0, .int .i64 a1_1, .int .i64 a1_2, .int .i64 a1_3, .string a1_4]] w fun e w' => e = .returned (.int .i64 r) ∧ Below w.heap.size w w' := by
 have hu36 := Try.underlying36; have HB := zm (Below.refl w.heap.size w); have H : ((cmp_Compare_int.f a0_0 a1_0).bind fun AB => ((cmp_Compare_int.f a0_1 a1_1).bind fun AC => ((cmp_Compare_int.f a0_2 a1_2).bind fun AD => ((cmp_Compare_int.f a0_3 a1_3).bind fun AE => ((strings_Compare.f a0_4 a1_4).bind fun AF => ((cmp_Or_int.f k (([AB, AC, AD, AE, AF] : List Int))).bind fun AJ => (some AJ))))))) = some r := h; clear h; replace H := Option.bind_eq_some_iff.mp H; obtain ⟨AB, AL, H⟩ := H; (try dsimp only at H); have A3 := zm AL; clear AL; replace H := Option.bind_eq_some_iff.mp H; obtain ⟨AC, AM, H⟩ := H; (try dsimp only at H); have A4 := zm AM; clear AM; replace H := Option.bind_eq_some_iff.mp H; obtain ⟨AD, AN, H⟩ := H; (try dsimp only at H); have A5 := zm AN; clear AN; replace H := Option.bind_eq_some_iff.mp H; obtain ⟨AE, AO, H⟩ := H; (try dsimp only at H); have A6 := zm AO; clear AO; replace H := Option.bind_eq_some_iff.mp H; obtain ⟨AF, AP, H⟩ := H; (try dsimp only at H); have A7 := zm AP; clear AP
 obtain ⟨y465, hy465⟩ : ∃ y_ : List Int, y_ = (([AB, AC, AD, AE, AF] : List Int)) := ⟨_, rfl⟩
 replace H : ((cmp_Or_int.f k y465).bind fun AJ => (some AJ)) = some r := by first | (rw [hy465]; with_reducible exact H) | (have H2_ := (Option.bind_some _ _).symm.trans H; rw [hy465]; with_reducible exact H2_) | (have H2_ := (Option.bind_some _ _).symm.trans H; with_reducible exact H2_) | with_reducible exact H | (rw [hy465]; exact H) | exact H
 have Ny465 := zm hy465; clear hy465; replace H := Option.bind_eq_some_iff.mp H; obtain ⟨AJ, AQ, H⟩ := H; (try dsimp only at H); have A8 := zm AQ; clear AQ; obtain rfl := Option.some.inj H; go_enter Try.func71, Try.ntmps71
 try go_wp2_with (first | ((with_reducible refine gate_dst (N := 2) rfl ?_); refine zbox 2 #[.int .i64 a0_0, .int .i64 a0_1, .int .i64 a0_2, .int .i64 a0_3, .string a0_4] 36 ?_; intro AH hg w9 hbox hb; have AA := zm (hbox); have AY := zge w hg zB; have AW := zge w hg zB; replace HB := zm (below_step zB hb); clear hb hbox hg) | ((with_reducible refine gate_dst (N := 3) rfl ?_); refine zbox 3 #[.int .i64 a1_0, .int .i64 a1_1, .int .i64 a1_2, .int .i64 a1_3, .string a1_4] 36 ?_; intro AI hg AV hbox hb; have AG := zm (hbox); have AZ := zge w hg zB; have AX := zge w hg zB; replace HB := zm (below_step zB hb); have AR := zlt hg (zb AA); have AS := zgt hg (zb AA); replace AA := zy AA hb; clear hb hbox hg))
 replace AA := zq AA; replace AG := zq AG; replace HB := zm (below_drew1 HB.out)
 refine start_ (n := 28) (S := fun w' => w'.cell? ⟨AH, 0, none⟩ = some (.int .i64 a0_0) ∧ w'.cell? ⟨AH, 1, none⟩ = some (.int .i64 a0_1) ∧ w'.cell? ⟨AH, 2, none⟩ = some (.int .i64 a0_2) ∧ w'.cell? ⟨AH, 3, none⟩ = some (.int .i64 a0_3) ∧ w'.cell? ⟨AH, 4, none⟩ = some (.string a0_4) ∧ w'.cell? ⟨AI, 0, none⟩ = some (.int .i64 a1_0) ∧ w'.cell? ⟨AI, 1, none⟩ = some (.int .i64 a1_1) ∧ w'.cell? ⟨AI, 2, none⟩ = some (.int .i64 a1_2) ∧ w'.cell? ⟨AI, 3, none⟩ = some (.int .i64 a1_3) ∧ w'.cell? ⟨AI, 4, none⟩ = some (.string a1_4)) (ds := []) (zl 28 0) (by kernel_rfl) rfl rfl zS (fun hHeld => ?_); refine with_tabW impl_EntryCmp.tab1 impl_EntryCmp.bits1 (fun HT_ HW_ => ?_)
 generalize AV.drew = Aa at AA AG HB hHeld ⊢
 refine zu 0 5 28 1 ?_
 refine zu 2 7 28 5 ?_
 refine zu 5 10 28 37 ?_
 refine zu 7 12 28 165 ?_
 refine zu 10 15 28 1189 ?_
 refine zu 12 17 28 5285 ?_
 refine zu 15 20 28 38053 ?_
 refine zu 17 22 28 169125 ?_
 refine zu 20 25 28 1217701 ?_
 refine zu 22 27 28 5412005 ?_
 refine zv 1 6 28 5412007 ?_
 refine zv 3 8 28 5412015 ?_
 refine zv 6 11 28 5412079 ?_
 refine zv 8 13 28 5412335 ?_
 refine zv 11 16 28 5414383 ?_
 refine zv 13 18 28 5422575 ?_
 refine zv 16 21 28 5488111 ?_
 refine zv 18 23 28 5750255 ?_
 refine zv 21 26 28 7847407 ?_
 refine zv 23 28 28 16236015 ?_
 refine zo 4 (some 9) (zl 28 16236031) (fun K hK => ?_); refine zgo #[.int .i64 a0_0, .int .i64 a1_0] Try.func104 ?_; (with_reducible refine (cmp_Compare_int.calls a0_0 a1_0 AB _ A3.out).mono ?_); rintro e w' ⟨rfl, ⟨nd, rfl⟩⟩; refine ⟨_, rfl, ?_⟩; refine hK.out _ _ zS (fun hHeld => ?_); clear hK K; refine zn ?_; refine zo 9 (some 14) (zl 28 16236543) (fun K hK => ?_); refine zgo #[.int .i64 a0_1, .int .i64 a1_1] Try.func104 ?_; (with_reducible refine (cmp_Compare_int.calls a0_1 a1_1 AC _ A4.out).mono ?_); rintro e w' ⟨rfl, ⟨nd, rfl⟩⟩; refine ⟨_, rfl, ?_⟩; refine hK.out _ _ zS (fun hHeld => ?_); clear hK K; refine zn ?_; refine zo 14 (some 19) (zl 28 16252927) (fun K hK => ?_); refine zgo #[.int .i64 a0_2, .int .i64 a1_2] Try.func104 ?_; (with_reducible refine (cmp_Compare_int.calls a0_2 a1_2 AD _ A5.out).mono ?_); rintro e w' ⟨rfl, ⟨nd, rfl⟩⟩; refine ⟨_, rfl, ?_⟩; refine hK.out _ _ zS (fun hHeld => ?_); clear hK K; refine zn ?_; refine zo 19 (some 24) (zl 28 16777215) (fun K hK => ?_); refine zgo #[.int .i64 a0_3, .int .i64 a1_3] Try.func104 ?_; (with_reducible refine (cmp_Compare_int.calls a0_3 a1_3 AE _ A6.out).mono ?_); rintro e w' ⟨rfl, ⟨nd, rfl⟩⟩; refine ⟨_, rfl, ?_⟩; refine hK.out _ _ zS (fun hHeld => ?_); clear hK K; refine zn ?_; refine zo 24 (some 29) (zl 28 33554431) (fun K hK => ?_); refine zgo #[.string a0_4, .string a1_4] Try.func105 ?_; (with_reducible refine (strings_Compare.calls a0_4 a1_4 AF _ A7.out).mono ?_); rintro e w' ⟨rfl, ⟨nd, rfl⟩⟩; refine ⟨_, rfl, ?_⟩
 refine hK.out _ _ zS (fun hHeld => ?_); clear hK K; refine zn ?_; refine zo 25 (some 30) (zl 28 67108863) (fun K hK => ?_)
 refine Kd.R_lit_step (Kd.int .i64) _ 3 ?hg (N := 30) ?hd (xs := ([AB, AC, AD, AE, AF] : List Int)) (inner := [.int .i64 AB, .int .i64 AC, .int .i64 AD, .int .i64 AE, .int .i64 AF]) (ok := fun _ => True) (okp := fun _ => True) ?hr ?hp (fun _ hk => hk) trivial (Below.refl _ _) (Nat.le_refl _) (by simp) ?_; (case hd => rfl); (case hg => rfl); (case hr => first | (go_simp; done) | (go_simp; rfl)); (case hp => exact (Reps.one (show Kd.M (Kd.int .i64) _ _ _ AB [.int .i64 AB] from rfl) (Reps.one (show Kd.M (Kd.int .i64) _ _ _ AC [.int .i64 AC] from rfl) (Reps.one (show Kd.M (Kd.int .i64) _ _ _ AD [.int .i64 AD] from rfl) (Reps.one (show Kd.M (Kd.int .i64) _ _ _ AE [.int .i64 AE] from rfl) (Reps.one (show Kd.M (Kd.int .i64) _ _ _ AF [.int .i64 AF] from rfl) (Reps.none _ _)))))))
 intro v466 Ab ho13 hb hg_ hnew_; clear hg_ hnew_
 (first | rw [← Ny465.out] at ho13 | (simp only [Int.reduceToNat] at ho13; rw [← Ny465.out] at ho13))
 have AK := zm (Kd.R_lower ho13 (below_size zB)); replace AA := zy AA hb; replace AG := zy AG hb; replace HB := zm (below_step zB hb); clear hb ho13; obtain ⟨AT, AU, eo14⟩ := Kd.R_slice AK.out
 (first | subst eo14 | (injection eo14 with f1_ f2_ f3_; have f4_ := f1_.symm; have f5_ := f3_.symm; clear f1_ f2_ f3_; subst f4_; subst f5_))
 refine hK.out _ _ zS (fun hHeld => ?_); clear hK K; refine zn (N := some 30) ?_; refine zo 26 (some 31) (zl 28 134217727) (fun K hK => ?_); refine zgo #[.slice AT y465.length AU] Try.func103 ?_; (with_reducible refine (cmp_Or_int.calls k _ _ y465 AJ _ ?side1 ?side2 A8.out).mono ?_)
 (case side1 => repeat (first | exact (Kd.R_reads' AK.out).2.2 | (with_reducible refine Kd.C_alloc ?_ _) | (with_reducible refine Kd.C_drewN ?_ _) | (with_reducible refine Kd.C_drew ?_)))
 (case side2 => exact (Kd.R_reads' AK.out).2.1)
 rintro e w' ⟨rfl, ⟨nd, rfl⟩⟩; refine ⟨_, rfl, ?_⟩; refine hK.out _ _ zS (fun hHeld => ?_); clear hK K; refine zn ?_
 refine zu 27 4 28 268435455 ?_
 refine done_ (done_of HT_.out (by kernel_rfl)) ?_
 try go_wp2
 go_ret
 exact ⟨zE, zB⟩

/-! ### impl_EntryMax: function 25 -/
def impl_EntryMax.f (k : Nat) (a0_0 : Int) (a0_1 : Int) (a0_2 : Int) (a0_3 : Int) (a0_4 : ByteArray) (a1_0 : Int) (a1_1 : Int) (a1_2 : Int) (a1_3 : Int) (a1_4 : ByteArray) : Option (Int × Int × Int × Int × ByteArray) := (impl_EntryCmp.f k a0_0 a0_1 a0_2 a0_3 a0_4 a1_0 a1_1 a1_2 a1_3 a1_4).bind fun t542 => (if t542 < 0 then (some (a1_0, a1_1, a1_2, a1_3, a1_4)) else (some (a0_0, a0_1, a0_2, a0_3, a0_4)))
theorem impl_EntryMax.mono : ∀ a0 a1 a2 a3 a4 a5 a6 a7 a8 a9 k, LeO (impl_EntryMax.f k a0 a1 a2 a3 a4 a5 a6 a7 a8 a9) (impl_EntryMax.f (k + 1) a0 a1 a2 a3 a4 a5 a6 a7 a8 a9) := by
 intro a0 a1 a2 a3 a4 a5 a6 a7 a8 a9 k
 unfold impl_EntryMax.f
 repeat' first | (with_reducible first | exact LeO.refl _ | exact LeO.none _ | refine LeO.ite ?_ ?_ | refine LeO.bind ?_ (fun _ => ?_) | apply impl_EntryCmp.mono) | apply impl_EntryCmp.mono | exact LeO.none _ | refine LeO.ite ?_ ?_ | refine LeO.bind ?_ (fun _ => ?_)
set_option maxHeartbeats 8000000 in
set_option maxRecDepth 100000 in
theorem impl_EntryMax.calls (k : Nat) (a0_0 : Int) (a0_1 : Int) (a0_2 : Int) (a0_3 : Int) (a0_4 : ByteArray) (a1_0 : Int) (a1_1 : Int) (a1_2 : Int) (a1_3 : Int) (a1_4 : ByteArray) (r1 : Int) (r2 : Int) (r3 : Int) (r4 : Int) (r5 : ByteArray) (w : World) (h : impl_EntryMax.f k a0_0 a0_1 a0_2 a0_3 a0_4 a1_0 a1_1 a1_2 a1_3 a1_4 = some (r1, r2, r3, r4, r5)) :
  Calls Try.prog 25 #[.agg #[.int .i64 a0_0, .int .i64 a0_1, .int .i64 a0_2, .int .i64 a0_3, .string a0_4], .agg #[.int .i64 a1_0, .int .i64 a1_1, .int .i64 a1_2, .int .i64 a1_3, .string a1_4]] w fun e w' => e = .returned (.agg #[.int .i64 r1, .int .i64 r2, .int .i64 r3, .int .i64 r4, .string r5]) ∧ Below w.heap.size w w' := by
 have hu36 := Try.underlying36; have HB := zm (Below.refl w.heap.size w); have H : ((impl_EntryCmp.f k a0_0 a0_1 a0_2 a0_3 a0_4 a1_0 a1_1 a1_2 a1_3 a1_4).bind fun AJ => (if AJ < 0 then (some (a1_0, a1_1, a1_2, a1_3, a1_4)) else (some (a0_0, a0_1, a0_2, a0_3, a0_4)))) = some (r1, r2, r3, r4, r5) := h; clear h; replace H := Option.bind_eq_some_iff.mp H; obtain ⟨AJ, AT, H⟩ := H; (try dsimp only at H); have A3 := zm AT; clear AT
 by_cases c4 : AJ < 0
 ·rw [if_pos c4] at H; have AU : decide (AJ < 0) = true := decide_eq_true c4; clear c4; simp only [Option.some.injEq, Prod.mk.injEq] at H; obtain ⟨rfl, rfl, rfl, rfl, rfl⟩ := H; go_enter Try.func25, Try.ntmps25
  go_wp2_with (first | ((with_reducible refine gate_dst (N := 2) rfl ?_); refine zbox 2 #[.int .i64 a0_0, .int .i64 a0_1, .int .i64 a0_2, .int .i64 a0_3, .string a0_4] 36 ?_; intro AR hg w5 hbox hb; have AA := zm (hbox); have AO := zge w hg zB; have AL := zge w hg zB; replace HB := zm (below_step zB hb); clear hb hbox hg) | ((with_reducible refine gate_dst (N := 3) rfl ?_); refine zbox 3 #[.int .i64 a1_0, .int .i64 a1_1, .int .i64 a1_2, .int .i64 a1_3, .string a1_4] 36 ?_; intro AS hg w6 hbox hb; have AB := zm (hbox); have AP := zge w hg zB; have AM := zge w hg zB; replace HB := zm (below_step zB hb); have AD := zlt hg (zb AA); have AF := zgt hg (zb AA); replace AA := zy AA hb; clear hb hbox hg) | ((with_reducible refine gate_dst (N := 4) rfl ?_); refine zbox 4 #[.int .i64 0, .int .i64 0, .int .i64 0, .int .i64 0, .string (⟨#[]⟩ : ByteArray)] 36 ?_; intro AK hg w7 hbox hb; have AC := zm (hbox); have AQ := zge w hg zB; have AN := zge w hg zB; replace HB := zm (below_step zB hb); have AE := zlt hg (zb AA); have AH := zgt hg (zb AA); replace AA := zy AA hb; have AG := zlt hg (zb AB); have AI := zgt hg (zb AB); replace AB := zy AB hb; clear hb hbox hg; have C2 := AD.out; have C4 := AF.out; have C3 := AE.out; have C5 := AH.out; obtain ⟨AV, AW, AX, AY, AZ, BG, BH, BI, BJ, BK⟩ := zc5 AA; have Bu := AG.out; have By := AI.out; obtain ⟨Aa, Ab, Ac, Ad, Ae, BL, BM, BN, BO, BP⟩ := zc5 AB) | ((with_reducible refine gate_callee (f := 71) rfl ?_); refine zg (some 7) #[.agg #[.int .i64 a0_0, .int .i64 a0_1, .int .i64 a0_2, .int .i64 a0_3, .string a0_4], .agg #[.int .i64 a1_0, .int .i64 a1_1, .int .i64 a1_2, .int .i64 a1_3, .string a1_4]] Try.func71 ?_; (with_reducible refine (impl_EntryCmp.calls k a0_0 a0_1 a0_2 a0_3 a0_4 a1_0 a1_1 a1_2 a1_3 a1_4 AJ _ A3.out).mono ?_); rintro e C6 ⟨rfl, hb⟩; refine ⟨_, rfl, ?_⟩; replace AA := zy AA hb; replace AB := zy AB hb; replace AC := zy AC hb; replace HB := zm (below_step zB hb); clear hb; obtain ⟨Af, Ag, Ah, Ai, Aj, BQ, BR, BS, BT, BU⟩ := zc5 AB; obtain ⟨Ak, Al, Am, An, Ao, BV, BW, BX, BY, BZ⟩ := zc5 AC))
  refine bodyPost_ret (results_cell_row rfl _ _ AK 36 #[.int .i64 a1_0, .int .i64 a1_1, .int .i64 a1_2, .int .i64 a1_3, .string a1_4] (0, 0) _ rfl (zput (zput (zput (zput (zput (zb AC) 0) 1) 2) 3) 4) Try.underlying36 rfl (by kernel_rfl)) rfl ?_
  exact ⟨zE, zB⟩
 ·rw [if_neg c4] at H; have AU : decide (AJ < 0) = false := decide_eq_false c4; clear c4; simp only [Option.some.injEq, Prod.mk.injEq] at H; obtain ⟨rfl, rfl, rfl, rfl, rfl⟩ := H; go_enter Try.func25, Try.ntmps25
  go_wp2_with (first | ((with_reducible refine gate_dst (N := 2) rfl ?_); refine zbox 2 #[.int .i64 a0_0, .int .i64 a0_1, .int .i64 a0_2, .int .i64 a0_3, .string a0_4] 36 ?_; intro AR hg C7 hbox hb; have AA := zm (hbox); have AO := zge w hg zB; have AL := zge w hg zB; replace HB := zm (below_step zB hb); clear hb hbox hg) | ((with_reducible refine gate_dst (N := 3) rfl ?_); refine zbox 3 #[.int .i64 a1_0, .int .i64 a1_1, .int .i64 a1_2, .int .i64 a1_3, .string a1_4] 36 ?_; intro AS hg C8 hbox hb; have AB := zm (hbox); have AP := zge w hg zB; have AM := zge w hg zB; replace HB := zm (below_step zB hb); have AD := zlt hg (zb AA); have AF := zgt hg (zb AA); replace AA := zy AA hb; clear hb hbox hg) | ((with_reducible refine gate_dst (N := 4) rfl ?_); refine zbox 4 #[.int .i64 0, .int .i64 0, .int .i64 0, .int .i64 0, .string (⟨#[]⟩ : ByteArray)] 36 ?_; intro AK hg C9 hbox hb; have AC := zm (hbox); have AQ := zge w hg zB; have AN := zge w hg zB; replace HB := zm (below_step zB hb); have AE := zlt hg (zb AA); have AH := zgt hg (zb AA); replace AA := zy AA hb; have AG := zlt hg (zb AB); have AI := zgt hg (zb AB); replace AB := zy AB hb; clear hb hbox hg; have Bv := AD.out; have Bz := AF.out; have Bw := AE.out; have C0 := AH.out; obtain ⟨Ap, Aq, Ar, As, At, Ba, Bb, Bc, Bd, Be⟩ := zc5 AA; have Bx := AG.out; have C1 := AI.out; obtain ⟨Au, Av, Aw, Ax, Ay, Bf, Bg, Bh, Bi, Bj⟩ := zc5 AB) | ((with_reducible refine gate_callee (f := 71) rfl ?_); refine zg (some 7) #[.agg #[.int .i64 a0_0, .int .i64 a0_1, .int .i64 a0_2, .int .i64 a0_3, .string a0_4], .agg #[.int .i64 a1_0, .int .i64 a1_1, .int .i64 a1_2, .int .i64 a1_3, .string a1_4]] Try.func71 ?_; (with_reducible refine (impl_EntryCmp.calls k a0_0 a0_1 a0_2 a0_3 a0_4 a1_0 a1_1 a1_2 a1_3 a1_4 AJ _ A3.out).mono ?_); rintro e CA ⟨rfl, hb⟩; refine ⟨_, rfl, ?_⟩; replace AA := zy AA hb; replace AB := zy AB hb; replace AC := zy AC hb; replace HB := zm (below_step zB hb); clear hb; obtain ⟨Az, B0, B2, B3, BA, Bk, Bl, Bm, Bn, Bo⟩ := zc5 AA; obtain ⟨BB, BC, BD, BE, BF, Bp, Bq, Br, Bs, Bt⟩ := zc5 AC))
  refine bodyPost_ret (results_cell_row rfl _ _ AK 36 #[.int .i64 a0_0, .int .i64 a0_1, .int .i64 a0_2, .int .i64 a0_3, .string a0_4] (0, 0) _ rfl (zput (zput (zput (zput (zput (zb AC) 0) 1) 2) 3) 4) Try.underlying36 rfl (by kernel_rfl)) rfl ?_
  exact ⟨zE, zB⟩

end Go.Proofs.Ytnmofppbijmhoaa.P
