-- by a program of this session, for this seat
import Derived.Test.YtgjglbjdkikajaaZ
import Derived.Test.YtgjglbjdkikajaaP0
import Derived.Test.YtgjglbjdkikajaaPaa
namespace Go.Proofs.Ytgjglbjdkikajaa.P
open Go.RowKit Go.Proofs.YtgjglbjdkikajaaW.PrintWords Go.Proofs.YtgjglbjdkikajaaW.PrintLast Go.Proofs.YtgjglbjdkikajaaW.PrintMore Go.Proofs.Ytgjglbjdkikajaa.Z
attribute [local go_sem] max2_int min2_int max_two min_two max_three min_three max_four min_four   -- for this text's walks alone
set_option linter.unusedVariables false
set_option linter.unusedSimpArgs false

/-! ### impl_GetText: function 24 -/
def impl_GetText.f (k : Nat) (l0 : List Int) (a1 : Int) : Option (ByteArray × Int × Bool) := (impl_GetNum.f k l0 a1).bind fun bt176 => (if bt176.2.2 = true then (if bt176.1 > (wrap64 ((l0.length : Int) - bt176.2.1)) then (some ((⟨#[]⟩ : ByteArray), 0, false)) else (if 0 ≤ bt176.2.1 then (if bt176.2.1 ≤ (wrap64 (bt176.2.1 + bt176.1)) then (if (wrap64 (bt176.2.1 + bt176.1)) ≤ (l0.length : Int) then (some (strOfNums ((l0.take ((wrap64 (bt176.2.1 + bt176.1)) : Int).toNat).drop (bt176.2.1 : Int).toNat), wrap64 (bt176.2.1 + bt176.1), true)) else (none)) else (none)) else (none))) else (some ((⟨#[]⟩ : ByteArray), 0, false)))
theorem impl_GetText.mono : ∀ a0 a1 k, LeO (impl_GetText.f k a0 a1) (impl_GetText.f (k + 1) a0 a1) := by
 intro a0 a1 k
 unfold impl_GetText.f
 repeat' first | (with_reducible first | exact LeO.refl _ | exact LeO.none _ | refine LeO.ite ?_ ?_ | refine LeO.bind ?_ (fun _ => ?_) | apply impl_GetNum.mono) | apply impl_GetNum.mono | exact LeO.none _ | refine LeO.ite ?_ ?_ | refine LeO.bind ?_ (fun _ => ?_)
set_option maxHeartbeats 8000000 in
set_option maxRecDepth 100000 in
theorem impl_GetText.calls (k : Nat) (A0 : Option Addr) (c0 : Nat) (l0 : List Int) (a1 : Int) (r1 : ByteArray) (r2 : Int) (r3 : Bool) (w : World) (hr0 : Kd.C (Kd.int .u8) w A0 l0.length l0) (hc0 : l0.length ≤ c0) (h : impl_GetText.f k l0 a1 = some (r1, r2, r3)) :
  Calls Try.prog 24 #[.slice A0 l0.length c0, .int .i64 a1] w fun e w' => e = .returned (.tuple #[.string r1, .int .i64 r2, .bool r3]) ∧ Drawn0 w w' := by
 have HR0 := zm hr0; have AD := zm hc0; clear hr0 hc0; have H : ((impl_GetNum.f k l0 a1).bind fun AB => (if AB.2.2 = true then (if AB.1 > (wrap64 ((l0.length : Int) - AB.2.1)) then (some ((⟨#[]⟩ : ByteArray), 0, false)) else (if 0 ≤ AB.2.1 then (if AB.2.1 ≤ (wrap64 (AB.2.1 + AB.1)) then (if (wrap64 (AB.2.1 + AB.1)) ≤ (l0.length : Int) then (some (strOfNums ((l0.take ((wrap64 (AB.2.1 + AB.1)) : Int).toNat).drop (AB.2.1 : Int).toNat), wrap64 (AB.2.1 + AB.1), true)) else (none)) else (none)) else (none))) else (some ((⟨#[]⟩ : ByteArray), 0, false)))) = some (r1, r2, r3) := h; clear h; replace H := Option.bind_eq_some_iff.mp H; obtain ⟨⟨AC, AA, AG⟩, AE, H⟩ := H; (try dsimp only at H); have A3 := zm AE; clear AE
 by_cases c4 : AG = true
 ·subst c4; rw [if_pos rfl] at H
  by_cases c5 : AC > (wrap64 ((l0.length : Int) - AA))
  ·rw [if_pos c5] at H; have AF : decide ((wrap64 ((l0.length : Int) - AA)) < AC) = true := decide_eq_true c5; clear c5; simp only [Option.some.injEq, Prod.mk.injEq] at H; obtain ⟨rfl, rfl, rfl⟩ := H; go_enter Try.func24, Try.ntmps24
   go_wp2_with (first | ((with_reducible refine gate_callee (f := 23) rfl ?_); refine zg (some 13) #[.slice A0 l0.length c0, .int .i64 a1] Try.func23 ?_; (with_reducible refine (impl_GetNum.calls k _ _ l0 a1 AC AA true _ (zk HR0.out) AD.out A3.out).mono ?_); rintro e w' ⟨rfl, ⟨nd, rfl⟩⟩; refine ⟨_, rfl, ?_⟩))
   go_ret3
   exact ⟨zF, zD⟩
  ·rw [if_neg c5] at H; have AF : decide ((wrap64 ((l0.length : Int) - AA)) < AC) = false := decide_eq_false c5; clear c5
   by_cases c6 : 0 ≤ AA
   ·rw [if_pos c6] at H; have AI := eq_true c6; have AJ : decide (0 ≤ AA) = true := decide_eq_true c6; clear c6
    by_cases c7 : AA ≤ (wrap64 (AA + AC))
    ·rw [if_pos c7] at H; have AK := eq_true c7; have AL : decide (AA ≤ (wrap64 (AA + AC))) = true := decide_eq_true c7
     by_cases c8 : (wrap64 (AA + AC)) ≤ (l0.length : Int)
     ·rw [if_pos c8] at H; have AM := eq_true c8; have AN : decide ((wrap64 (AA + AC)) ≤ (l0.length : Int)) = true := decide_eq_true c8; simp only [Option.some.injEq, Prod.mk.injEq] at H; obtain ⟨rfl, rfl, rfl⟩ := H; go_enter Try.func24, Try.ntmps24
      go_wp2_with (first | ((with_reducible refine gate_callee (f := 23) rfl ?_); refine zg (some 13) #[.slice A0 l0.length c0, .int .i64 a1] Try.func23 ?_; (with_reducible refine (impl_GetNum.calls k _ _ l0 a1 AC AA true _ (zk HR0.out) AD.out A3.out).mono ?_); rintro e w' ⟨rfl, ⟨nd, rfl⟩⟩; refine ⟨_, rfl, ?_⟩; obtain ⟨i09, hi09, _, hsz9, _⟩ := info_parts info5; obtain ⟨A9, hcut9, hA9, hC9⟩ := print_mid_of (P := Try.prog) (Value.int .u8) 0 22 5 .i64 .i64 Try.underlying22 hi09 hsz9 A0 c0 l0 AA (wrap64 (AA + AC)) zd (by first | omega | exact zd) zd AD.out; have HR179 := zm (Kd.C_of_reads (h1 := fun _ => rfl) (hA9 _ (Kd.reads_of_C HR0.out))); have AH := zm hC9; clear hA9 hC9 hi09 hsz9; have hcv10 := fun m_ => Kd.C_string (P := Try.prog) (A := A9) (c := (c0 - AA.toNat)) Try.underlying22 Try.underlying5 Try.underlying9 (Kd.C_drewN HR179.out m_); have hcv10z := Kd.C_string (P := Try.prog) (A := A9) (c := (c0 - AA.toNat)) Try.underlying22 Try.underlying5 Try.underlying9 HR179.out; have hcv10l : ((l0.take ((wrap64 (AA + AC)) : Int).toNat).drop (AA : Int).toNat).length = ((wrap64 (AA + AC)) : Int).toNat - (AA : Int).toNat := (by rw [List.length_drop, List.length_take]; omega); (try simp only [hcv10l] at hcv10 hcv10z); clear hcv10l))
      go_ret3
      exact ⟨zF, zD⟩
     ·rw [if_neg c8] at H
      exact absurd H (by simp)
    ·rw [if_neg c7] at H
     exact absurd H (by simp)
   ·rw [if_neg c6] at H
    exact absurd H (by simp)
 ·replace c4 := Bool.eq_false_iff.mpr c4; subst c4; rw [zff] at H; simp only [Option.some.injEq, Prod.mk.injEq] at H; obtain ⟨rfl, rfl, rfl⟩ := H; go_enter Try.func24, Try.ntmps24
  go_wp2_with (first | ((with_reducible refine gate_callee (f := 23) rfl ?_); refine zg (some 13) #[.slice A0 l0.length c0, .int .i64 a1] Try.func23 ?_; (with_reducible refine (impl_GetNum.calls k _ _ l0 a1 AC AA false _ (zk HR0.out) AD.out A3.out).mono ?_); rintro e w' ⟨rfl, ⟨nd, rfl⟩⟩; refine ⟨_, rfl, ?_⟩))
  go_ret3
  exact ⟨zF, zD⟩

/-! ### laws_at0: function 25 -/
def laws_at0.f (l0 : List Int) (a1 : Int) : Option (Int) := if a1 < (l0.length : Int) then (if 0 ≤ a1 then (some (wrap64 (rd l0 a1))) else (none)) else (some (Int.tmod (wrap64 ((wrap64 (a1 * 7)) + (l0.length : Int))) 256))
set_option maxHeartbeats 8000000 in
set_option maxRecDepth 100000 in
theorem laws_at0.calls (A0 : Option Addr) (c0 : Nat) (l0 : List Int) (a1 : Int) (r : Int) (w : World) (hr0 : Kd.C (Kd.int .u8) w A0 l0.length l0) (hc0 : l0.length ≤ c0) (h : laws_at0.f l0 a1 = some r) :
  Calls Try.prog 25 #[.slice A0 l0.length c0, .int .i64 a1] w fun e w' => e = .returned (.int .i64 r) ∧ Drawn0 w w' := by
 have HR0 := zm hr0; have AC := zm hc0; clear hr0 hc0; have H : (if a1 < (l0.length : Int) then (if 0 ≤ a1 then (some (wrap64 (rd l0 a1))) else (none)) else (some (Int.tmod (wrap64 ((wrap64 (a1 * 7)) + (l0.length : Int))) 256))) = some r := h; clear h
 by_cases c3 : a1 < (l0.length : Int)
 ·rw [if_pos c3] at H; have AA : decide (a1 < (l0.length : Int)) = true := decide_eq_true c3; clear c3
  by_cases c4 : 0 ≤ a1
  ·rw [if_pos c4] at H; have AB : decide (0 ≤ a1) = true := decide_eq_true c4; clear c4; obtain rfl := Option.some.inj H; have p180 : 0 ≤ (a1 : Int) := zd; have q180 : a1 < (l0.length : Int) := zd; obtain ⟨ad180, e180, hx180_0⟩ := Kd.at_int HR0.out a1 p180 q180; cases e180; replace p180 := eq_true p180; replace q180 := eq_true q180; go_enter Try.func25, Try.ntmps25
   go_wp2
   go_ret
   exact ⟨zF, zD⟩
  ·rw [if_neg c4] at H
   exact absurd H (by simp)
 ·rw [if_neg c3] at H; have AA : decide (a1 < (l0.length : Int)) = false := decide_eq_false c3; clear c3; obtain rfl := Option.some.inj H; go_enter Try.func25, Try.ntmps25
  go_wp2
  go_ret
  exact ⟨zF, zD⟩

/-! ### impl_Crc: function 26 -/
mutual
def impl_Crc.l0 : Nat → Int → List Int → Int → Int → Option (Int)
 | 0, _, _, _, _ => none
 | k + 1, x3, x7, x8, x9 => if x9 < x8 then (if 0 ≤ x9 then (if x9 < (x7.length : Int) then (impl_Crc.l1 k (Go.bits .xor .i64 x3 (wrap64 (rd x7 x9))) x7 x8 x9 0) else (none)) else (none)) else (some (Go.bits .xor .i64 x3 4294967295))
def impl_Crc.l1 : Nat → Int → List Int → Int → Int → Int → Option (Int)
 | 0, _, _, _, _, _ => none
 | k + 1, x3, x7, x8, x9, x17 => if x17 < 8 then (if (Int.tmod x3 2) = 1 then (impl_Crc.l1 k (Go.bits .xor .i64 (wrap64 (Int.tdiv x3 2)) 3988292384) x7 x8 x9 (wrap64 (x17 + 1))) else (impl_Crc.l1 k (wrap64 (Int.tdiv x3 2)) x7 x8 x9 (wrap64 (x17 + 1)))) else (impl_Crc.l0 k x3 x7 x8 (wrap64 (x9 + 1)))
end
def impl_Crc.f (k : Nat) (l0 : List Int) : Option (Int) := impl_Crc.l0 k 4294967295 l0 (l0.length : Int) 0
theorem impl_Crc.mono_l : ∀ k, (∀ y0 y1 y2 y3, LeO (impl_Crc.l0 k y0 y1 y2 y3) (impl_Crc.l0 (k + 1) y0 y1 y2 y3)) ∧ (∀ y0 y1 y2 y3 y4, LeO (impl_Crc.l1 k y0 y1 y2 y3 y4) (impl_Crc.l1 (k + 1) y0 y1 y2 y3 y4))
 | 0 => ⟨fun _ _ _ _ r h => by simp [impl_Crc.l0] at h, fun _ _ _ _ _ r h => by simp [impl_Crc.l1] at h⟩
 | k + 1 => by
  obtain ⟨ih0, ih1⟩ := impl_Crc.mono_l k
  refine ⟨?_, ?_⟩
  ·intro y0 y1 y2 y3
   unfold impl_Crc.l0
   repeat' first | (with_reducible first | exact LeO.refl _ | exact LeO.none _ | refine LeO.ite ?_ ?_ | refine LeO.bind ?_ (fun _ => ?_) | apply ih0 | apply ih1) | apply ih0 | apply ih1 | exact LeO.none _ | refine LeO.ite ?_ ?_ | refine LeO.bind ?_ (fun _ => ?_)
  ·intro y0 y1 y2 y3 y4
   unfold impl_Crc.l1
   repeat' first | (with_reducible first | exact LeO.refl _ | exact LeO.none _ | refine LeO.ite ?_ ?_ | refine LeO.bind ?_ (fun _ => ?_) | apply ih0 | apply ih1) | apply ih0 | apply ih1 | exact LeO.none _ | refine LeO.ite ?_ ?_ | refine LeO.bind ?_ (fun _ => ?_)
theorem impl_Crc.mono : ∀ a0 k, LeO (impl_Crc.f k a0) (impl_Crc.f (k + 1) a0) := by
 intro a0 k; obtain ⟨ih0, ih1⟩ := impl_Crc.mono_l k
 unfold impl_Crc.f
 repeat' first | (with_reducible first | exact LeO.refl _ | exact LeO.none _ | refine LeO.ite ?_ ?_ | refine LeO.bind ?_ (fun _ => ?_) | apply ih0 | apply ih1) | apply ih0 | apply ih1 | exact LeO.none _ | refine LeO.ite ?_ ?_ | refine LeO.bind ?_ (fun _ => ?_)
set_option maxHeartbeats 8000000 in
set_option maxRecDepth 100000 in
theorem impl_Crc.calls (k : Nat) (A0 : Option Addr) (c0 : Nat) (l0 : List Int) (r : Int) (w : World) (hr0 : Kd.C (Kd.int .u8) w A0 l0.length l0) (hc0 : l0.length ≤ c0) (h : impl_Crc.f k l0 = some r) :
  Calls Try.prog 26 #[.slice A0 l0.length c0] w fun e w' => e = .returned (.int .i64 r) ∧ Drawn0 w w' := by
 have HR0 := zm hr0; have AM := zm hc0; clear hr0 hc0; have H : (impl_Crc.l0 k 4294967295 l0 (l0.length : Int) 0) = some r := h; clear h
 have H' := zm H
 clear H; go_enter Try.func26, Try.ntmps26
 go_wp2
 go_loopg [3, 9] k (fun kq v3 v9 w' => ∃ (AF : Int) (AA : Int), v3 = .int .i64 AF ∧ v9 = .int .i64 AA ∧ Aside0 (impl_Crc.l0 kq AF l0 (l0.length : Int) AA = some r) ∧ Aside0 (kq ≤ k) ∧ Drawn0 w w')
 case atStart => exact ⟨(4294967295), (0), zF, zF, H', ⟨Nat.le_refl _⟩, zD⟩
 case round =>
  clear H'; obtain ⟨AF, AA, rfl, rfl, HA, AD, ⟨m1, rfl⟩⟩ := hrel
  cases gk with
  | zero => exact absurd HA.out (by simp [impl_Crc.l0])
  | succ k1 =>
   have H := HA.out; clear HA; simp only [impl_Crc.l0] at H
   by_cases c2 : AA < (l0.length : Int)
   ·rw [if_pos c2] at H; have AG : decide (AA < (l0.length : Int)) = true := decide_eq_true c2; clear c2
    by_cases c3 : 0 ≤ AA
    ·rw [if_pos c3] at H; have AH : decide (0 ≤ AA) = true := decide_eq_true c3; clear c3
     by_cases c4 : AA < (l0.length : Int)
     ·rw [if_pos c4] at H; have AI : decide (AA < (l0.length : Int)) = true := decide_eq_true c4; clear c4
      have H' := zm H
      clear H; have p181 : 0 ≤ (AA : Int) := zd; have q181 : AA < (l0.length : Int) := zd; obtain ⟨ad181, e181, hx181_0⟩ := Kd.at_int HR0.out AA p181 q181; cases e181; replace p181 := eq_true p181; replace q181 := eq_true q181
      go_wp2
      go_loopg [3, 17] k1 (fun kq v3 v17 w' => ∃ (AB : Int) (AC : Int), v3 = .int .i64 AB ∧ v17 = .int .i64 AC ∧ Aside0 (impl_Crc.l1 kq AB l0 (l0.length : Int) AA AC = some r) ∧ Aside0 (kq ≤ k1) ∧ Drawn0 w w')
      case atStart => exact ⟨(Go.bits .xor .i64 AF (wrap64 (rd l0 AA))), (0), zF, zF, H', ⟨Nat.le_refl _⟩, zD⟩
      case round =>
       clear H'; (try clear c2); (try clear AG); (try clear c3); (try clear AH); (try clear c4); (try clear AI); (try clear hx181_0); (try clear p181); (try clear q181); obtain ⟨AB, AC, rfl, rfl, HA, AE, ⟨m2, rfl⟩⟩ := hrel
       cases gk with
       | zero => exact absurd HA.out (by simp [impl_Crc.l1])
       | succ k2 =>
        have H := HA.out; clear HA; simp only [impl_Crc.l1] at H
        by_cases c5 : AC < 8
        ·rw [if_pos c5] at H; have AJ : decide (AC < 8) = true := decide_eq_true c5; clear c5
         by_cases c6 : (Int.tmod AB 2) = 1
         ·rw [if_pos c6] at H; have AK : ((Int.tmod AB 2) == 1) = true := beq_iff_eq.mpr c6; have AL : ((Int.tmod AB 2) != 1) = false := bne_eq_false_iff_eq.mpr c6; clear c6
          have H' := zm H
          clear H
          go_wp2
          go_roundg k2
          case measure => have := AD.out; have := AE.out; omega
          case rel => exact ⟨(Go.bits .xor .i64 (wrap64 (Int.tdiv AB 2)) 3988292384), (wrap64 (AC + 1)), zF, zF, H', ⟨by have := AD.out; have := AE.out; omega⟩, zD⟩
         ·rw [if_neg c6] at H; have AK : ((Int.tmod AB 2) == 1) = false := beq_eq_false_iff_ne.mpr c6; have AL : ((Int.tmod AB 2) != 1) = true := bne_iff_ne.mpr c6
          have H' := zm H
          clear H
          go_wp2
          go_roundg k2
          case measure => have := AD.out; have := AE.out; omega
          case rel => exact ⟨(wrap64 (Int.tdiv AB 2)), (wrap64 (AC + 1)), zF, zF, H', ⟨by have := AD.out; have := AE.out; omega⟩, zD⟩
        ·rw [if_neg c5] at H; have AJ : decide (AC < 8) = false := decide_eq_false c5; clear c5
         have H' := zm H
         clear H
         go_wp2
         go_roundg k2
         case measure => have := AD.out; have := AE.out; omega
         case rel => exact ⟨(AB), (wrap64 (AA + 1)), zF, zF, H', ⟨by have := AD.out; have := AE.out; omega⟩, zD⟩
     ·rw [if_neg c4] at H
      exact absurd H (by simp)
    ·rw [if_neg c3] at H
     exact absurd H (by simp)
   ·rw [if_neg c2] at H; have AG : decide (AA < (l0.length : Int)) = false := decide_eq_false c2; clear c2; obtain rfl := Option.some.inj H
    go_wp2
    go_ret
    exact ⟨zF, zD⟩

end Go.Proofs.Ytgjglbjdkikajaa.P
