-- by a program of this session, for this seat
import Derived.Test.YtgapdegniepjiaaZ
import Derived.Test.YtgapdegniepjiaaP0
import Derived.Test.YtgapdegniepjiaaPaa
import Derived.Test.YtgapdegniepjiaaPac
import Derived.Test.YtgapdegniepjiaaPab
import Derived.Test.YtgapdegniepjiaaPad
import Derived.Test.YtgapdegniepjiaaPaf
namespace Go.Proofs.Ytgapdegniepjiaa.P
open Go.RowKit Go.Proofs.YtgapdegniepjiaaW.PrintWords Go.Proofs.YtgapdegniepjiaaW.PrintLast Go.Proofs.YtgapdegniepjiaaW.PrintMore Go.Proofs.Ytgapdegniepjiaa.Z
attribute [local go_sem] max2_int min2_int max_two min_two max_three min_three max_four min_four   -- for this text's walks alone
set_option linter.unusedVariables false
set_option linter.unusedSimpArgs false

/-! ### spec_Crc: function 62 -/
mutual
def spec_Crc.l0 : Nat → List Int → Int → Int → Option (Int)
 | 0, _, _, _ => none
 | k + 1, x0, x3, x4 => if x4 < (x0.length : Int) then (if 0 ≤ x4 then (spec_Crc.l1 k x0 (Go.bits .xor .i64 x3 (wrap64 (rd x0 x4))) x4 0) else (none)) else (some (Go.bits .xor .i64 x3 4294967295))
def spec_Crc.l1 : Nat → List Int → Int → Int → Int → Option (Int)
 | 0, _, _, _, _ => none
 | k + 1, x0, x3, x4, x5 => if x5 < 8 then (if (Int.tmod x3 2) = 1 then (spec_Crc.l1 k x0 (Go.bits .xor .i64 (wrap64 (Int.tdiv x3 2)) 3988292384) x4 (wrap64 (x5 + 1))) else (spec_Crc.l1 k x0 (wrap64 (Int.tdiv x3 2)) x4 (wrap64 (x5 + 1)))) else (spec_Crc.l0 k x0 x3 (wrap64 (x4 + 1)))
end
def spec_Crc.f (k : Nat) (l0 : List Int) : Option (Int) := spec_Crc.l0 k l0 4294967295 0
theorem spec_Crc.mono_l : ∀ k, (∀ y0 y1 y2, LeO (spec_Crc.l0 k y0 y1 y2) (spec_Crc.l0 (k + 1) y0 y1 y2)) ∧ (∀ y0 y1 y2 y3, LeO (spec_Crc.l1 k y0 y1 y2 y3) (spec_Crc.l1 (k + 1) y0 y1 y2 y3))
 | 0 => ⟨fun _ _ _ r h => by simp [spec_Crc.l0] at h, fun _ _ _ _ r h => by simp [spec_Crc.l1] at h⟩
 | k + 1 => by
  obtain ⟨ih0, ih1⟩ := spec_Crc.mono_l k
  refine ⟨?_, ?_⟩
  ·intro y0 y1 y2
   unfold spec_Crc.l0
   repeat' first | (with_reducible first | exact LeO.refl _ | exact LeO.none _ | refine LeO.ite ?_ ?_ | refine LeO.bind ?_ (fun _ => ?_) | apply ih0 | apply ih1) | apply ih0 | apply ih1 | exact LeO.none _ | refine LeO.ite ?_ ?_ | refine LeO.bind ?_ (fun _ => ?_)
  ·intro y0 y1 y2 y3
   unfold spec_Crc.l1
   repeat' first | (with_reducible first | exact LeO.refl _ | exact LeO.none _ | refine LeO.ite ?_ ?_ | refine LeO.bind ?_ (fun _ => ?_) | apply ih0 | apply ih1) | apply ih0 | apply ih1 | exact LeO.none _ | refine LeO.ite ?_ ?_ | refine LeO.bind ?_ (fun _ => ?_)
theorem spec_Crc.mono : ∀ a0 k, LeO (spec_Crc.f k a0) (spec_Crc.f (k + 1) a0) := by
 intro a0 k; obtain ⟨ih0, ih1⟩ := spec_Crc.mono_l k
 unfold spec_Crc.f
 repeat' first | (with_reducible first | exact LeO.refl _ | exact LeO.none _ | refine LeO.ite ?_ ?_ | refine LeO.bind ?_ (fun _ => ?_) | apply ih0 | apply ih1) | apply ih0 | apply ih1 | exact LeO.none _ | refine LeO.ite ?_ ?_ | refine LeO.bind ?_ (fun _ => ?_)
set_option maxHeartbeats 8000000 in
set_option maxRecDepth 100000 in
theorem spec_Crc.calls (k : Nat) (A0 : Option Addr) (c0 : Nat) (l0 : List Int) (r : Int) (w : World) (hr0 : Kd.C (Kd.int .u8) w A0 l0.length l0) (hc0 : l0.length ≤ c0) (h : spec_Crc.f k l0 = some r) :
  Calls Try.prog 62 #[.slice A0 l0.length c0] w fun e w' => e = .returned (.int .i64 r) ∧ Drawn0 w w' := by
 have HR0 := zm hr0; have HC0 := zm hc0; clear hr0 hc0; have H : (spec_Crc.l0 k l0 4294967295 0) = some r := h; clear h
 have H' := zm H
 clear H; go_enter Try.func62, Try.ntmps62
 go_wp2
 go_loopg [3, 4] k (fun kq v3 v4 w' => ∃ (x3_1 : Int) (x4_1 : Int), v3 = .int .i64 x3_1 ∧ v4 = .int .i64 x4_1 ∧ Aside0 (spec_Crc.l0 kq l0 x3_1 x4_1 = some r) ∧ Aside0 (kq ≤ k) ∧ Drawn0 w w')
 case atStart => exact ⟨(4294967295), (0), zF, zF, H', ⟨Nat.le_refl _⟩, zD⟩
 case round =>
  clear H'; obtain ⟨x3_1, x4_1, rfl, rfl, HA, HK1, ⟨m1, rfl⟩⟩ := hrel
  cases gk with
  | zero => exact absurd HA.out (by simp [spec_Crc.l0])
  | succ k1 =>
   have H := HA.out; clear HA; simp only [spec_Crc.l0] at H
   by_cases c2 : x4_1 < (l0.length : Int)
   ·rw [if_pos c2] at H; have c2b0 : decide (x4_1 < (l0.length : Int)) = true := decide_eq_true c2; clear c2
    by_cases c3 : 0 ≤ x4_1
    ·rw [if_pos c3] at H; have c3b0 : decide (0 ≤ x4_1) = true := decide_eq_true c3; clear c3
     have H' := zm H
     clear H; have p413 : 0 ≤ (x4_1 : Int) := zd; have q413 : x4_1 < (l0.length : Int) := zd; obtain ⟨ad413, e413, hx413_0⟩ := Kd.at_int HR0.out x4_1 p413 q413; cases e413; replace p413 := eq_true p413; replace q413 := eq_true q413
     go_wp2
     go_loopg [3, 5] k1 (fun kq v3 v5 w' => ∃ (x3_2 : Int) (x5_2 : Int), v3 = .int .i64 x3_2 ∧ v5 = .int .i64 x5_2 ∧ Aside0 (spec_Crc.l1 kq l0 x3_2 x4_1 x5_2 = some r) ∧ Aside0 (kq ≤ k1) ∧ Drawn0 w w')
     case atStart => exact ⟨(Go.bits .xor .i64 x3_1 (wrap64 (rd l0 x4_1))), (0), zF, zF, H', ⟨Nat.le_refl _⟩, zD⟩
     case round =>
      clear H'; (try clear c2); (try clear c2b0); (try clear c3); (try clear c3b0); (try clear hx413_0); (try clear p413); (try clear q413); obtain ⟨x3_2, x5_2, rfl, rfl, HA, HK2, ⟨m2, rfl⟩⟩ := hrel
      cases gk with
      | zero => exact absurd HA.out (by simp [spec_Crc.l1])
      | succ k2 =>
       have H := HA.out; clear HA; simp only [spec_Crc.l1] at H
       by_cases c4 : x5_2 < 8
       ·rw [if_pos c4] at H; have c4b0 : decide (x5_2 < 8) = true := decide_eq_true c4; clear c4
        by_cases c5 : (Int.tmod x3_2 2) = 1
        ·rw [if_pos c5] at H; have c5b0 : ((Int.tmod x3_2 2) == 1) = true := beq_iff_eq.mpr c5; have c5b1 : ((Int.tmod x3_2 2) != 1) = false := bne_eq_false_iff_eq.mpr c5; clear c5
         have H' := zm H
         clear H
         go_wp2
         go_roundg k2
         case measure => have := HK1.out; have := HK2.out; omega
         case rel => exact ⟨(Go.bits .xor .i64 (wrap64 (Int.tdiv x3_2 2)) 3988292384), (wrap64 (x5_2 + 1)), zF, zF, H', ⟨by have := HK1.out; have := HK2.out; omega⟩, zD⟩
        ·rw [if_neg c5] at H; have c5b0 : ((Int.tmod x3_2 2) == 1) = false := beq_eq_false_iff_ne.mpr c5; have c5b1 : ((Int.tmod x3_2 2) != 1) = true := bne_iff_ne.mpr c5
         have H' := zm H
         clear H
         go_wp2
         go_roundg k2
         case measure => have := HK1.out; have := HK2.out; omega
         case rel => exact ⟨(wrap64 (Int.tdiv x3_2 2)), (wrap64 (x5_2 + 1)), zF, zF, H', ⟨by have := HK1.out; have := HK2.out; omega⟩, zD⟩
       ·rw [if_neg c4] at H; have c4b0 : decide (x5_2 < 8) = false := decide_eq_false c4; clear c4
        have H' := zm H
        clear H
        go_wp2
        go_roundg k2
        case measure => have := HK1.out; have := HK2.out; omega
        case rel => exact ⟨(x3_2), (wrap64 (x4_1 + 1)), zF, zF, H', ⟨by have := HK1.out; have := HK2.out; omega⟩, zD⟩
    ·rw [if_neg c3] at H
     exact absurd H (by simp)
   ·rw [if_neg c2] at H; have c2b0 : decide (x4_1 < (l0.length : Int)) = false := decide_eq_false c2; clear c2; obtain rfl := Option.some.inj H
    go_wp2
    go_ret
    exact ⟨zF, zD⟩

/-! ### spec_l1Has: function 99 -/
def spec_l1Has.l0 : Nat → List Int → Int → Int → Option (Bool)
 | 0, _, _, _ => none
 | k + 1, x0, x1, x5 => if x5 < (x0.length : Int) then (if 0 ≤ x5 then (if (rd x0 x5) = x1 then (some true) else (spec_l1Has.l0 k x0 x1 (wrap64 (x5 + 1)))) else (none)) else (some false)
def spec_l1Has.f (k : Nat) (l0 : List Int) (a1 : Int) : Option (Bool) := spec_l1Has.l0 k l0 a1 0
theorem spec_l1Has.mono_l : ∀ k, (∀ y0 y1 y2, LeO (spec_l1Has.l0 k y0 y1 y2) (spec_l1Has.l0 (k + 1) y0 y1 y2))
 | 0 => fun _ _ _ r h => by simp [spec_l1Has.l0] at h
 | k + 1 => by
  have ih0 := spec_l1Has.mono_l k
  ·intro y0 y1 y2
   unfold spec_l1Has.l0
   repeat' first | (with_reducible first | exact LeO.refl _ | exact LeO.none _ | refine LeO.ite ?_ ?_ | refine LeO.bind ?_ (fun _ => ?_) | apply ih0) | apply ih0 | exact LeO.none _ | refine LeO.ite ?_ ?_ | refine LeO.bind ?_ (fun _ => ?_)
theorem spec_l1Has.mono : ∀ a0 a1 k, LeO (spec_l1Has.f k a0 a1) (spec_l1Has.f (k + 1) a0 a1) := by
 intro a0 a1 k; have ih0 := spec_l1Has.mono_l k
 unfold spec_l1Has.f
 repeat' first | (with_reducible first | exact LeO.refl _ | exact LeO.none _ | refine LeO.ite ?_ ?_ | refine LeO.bind ?_ (fun _ => ?_) | apply ih0) | apply ih0 | exact LeO.none _ | refine LeO.ite ?_ ?_ | refine LeO.bind ?_ (fun _ => ?_)
set_option maxHeartbeats 8000000 in
set_option maxRecDepth 100000 in
theorem spec_l1Has.calls (k : Nat) (A0 : Option Addr) (c0 : Nat) (l0 : List Int) (a1 : Int) (r : Bool) (w : World) (hr0 : Kd.C (Kd.int .i64) w A0 l0.length l0) (hc0 : l0.length ≤ c0) (h : spec_l1Has.f k l0 a1 = some r) :
  Calls Try.prog 99 #[.slice A0 l0.length c0, .int .i64 a1] w fun e w' => e = .returned (.bool r) ∧ Drawn0 w w' := by
 have HR0 := zm hr0; have HC0 := zm hc0; clear hr0 hc0; have H : (spec_l1Has.l0 k l0 a1 0) = some r := h; clear h
 have H' := zm H
 clear H; go_enter Try.func99, Try.ntmps99
 go_wp2
 go_loopg [5] k (fun kq v5 w' => ∃ (x5_1 : Int), v5 = .int .i64 x5_1 ∧ Aside0 (spec_l1Has.l0 kq l0 a1 x5_1 = some r) ∧ Aside0 (kq ≤ k) ∧ Drawn0 w w')
 case atStart => exact ⟨(0), zF, H', ⟨Nat.le_refl _⟩, zD⟩
 case round =>
  clear H'; obtain ⟨x5_1, rfl, HA, HK1, ⟨m1, rfl⟩⟩ := hrel
  cases gk with
  | zero => exact absurd HA.out (by simp [spec_l1Has.l0])
  | succ k1 =>
   have H := HA.out; clear HA; simp only [spec_l1Has.l0] at H
   by_cases c3 : x5_1 < (l0.length : Int)
   ·rw [if_pos c3] at H; have c3b0 : decide (x5_1 < (l0.length : Int)) = true := decide_eq_true c3; clear c3
    by_cases c4 : 0 ≤ x5_1
    ·rw [if_pos c4] at H; have c4b0 : decide (0 ≤ x5_1) = true := decide_eq_true c4; clear c4
     by_cases c5 : (rd l0 x5_1) = a1
     ·rw [if_pos c5] at H; have c5b0 : ((rd l0 x5_1) == a1) = true := beq_iff_eq.mpr c5; have c5b1 : ((rd l0 x5_1) != a1) = false := bne_eq_false_iff_eq.mpr c5; clear c5; obtain rfl := Option.some.inj H; have p414 : 0 ≤ (x5_1 : Int) := zd; have q414 : x5_1 < (l0.length : Int) := zd; obtain ⟨ad414, e414, hx414_0⟩ := Kd.at_int HR0.out x5_1 p414 q414; cases e414; replace p414 := eq_true p414; replace q414 := eq_true q414
      go_wp2
      go_ret
      exact ⟨zF, zD⟩
     ·rw [if_neg c5] at H; have c5b0 : ((rd l0 x5_1) == a1) = false := beq_eq_false_iff_ne.mpr c5; have c5b1 : ((rd l0 x5_1) != a1) = true := bne_iff_ne.mpr c5
      have H' := zm H
      clear H; have p414 : 0 ≤ (x5_1 : Int) := zd; have q414 : x5_1 < (l0.length : Int) := zd; obtain ⟨ad414, e414, hx414_0⟩ := Kd.at_int HR0.out x5_1 p414 q414; cases e414; replace p414 := eq_true p414; replace q414 := eq_true q414
      go_wp2
      go_roundg k1
      case measure => have := HK1.out; omega
      case rel => exact ⟨(wrap64 (x5_1 + 1)), zF, H', ⟨by have := HK1.out; omega⟩, zD⟩
    ·rw [if_neg c4] at H
     exact absurd H (by simp)
   ·rw [if_neg c3] at H; have c3b0 : decide (x5_1 < (l0.length : Int)) = false := decide_eq_false c3; clear c3; obtain rfl := Option.some.inj H
    go_wp2
    go_ret
    exact ⟨zF, zD⟩

/-! ### spec_LeafOf: function 100 -/
def spec_LeafOf.f (k : Nat) (a0 : Int) : Option (Int) := (spec_l3Node.f a0).bind fun t415 => (if t415 = true then ((spec_PutNum.f k a0).bind fun t416 => ((spec_Crc.f k t416).bind fun t419 => (some (Int.tmod t419 4)))) else (some (-1)))
theorem spec_LeafOf.mono : ∀ a0 k, LeO (spec_LeafOf.f k a0) (spec_LeafOf.f (k + 1) a0) := by
 intro a0 k
 unfold spec_LeafOf.f
 repeat' first | (with_reducible first | exact LeO.refl _ | exact LeO.none _ | refine LeO.ite ?_ ?_ | refine LeO.bind ?_ (fun _ => ?_) | apply spec_Crc.mono | apply spec_PutNum.mono) | apply spec_Crc.mono | apply spec_PutNum.mono | exact LeO.none _ | refine LeO.ite ?_ ?_ | refine LeO.bind ?_ (fun _ => ?_)
set_option maxHeartbeats 8000000 in
set_option maxRecDepth 100000 in
theorem spec_LeafOf.calls (k : Nat) (a0 : Int) (r : Int) (w : World) (h : spec_LeafOf.f k a0 = some r) :
  Calls Try.prog 100 #[.int .i64 a0] w fun e w' => e = .returned (.int .i64 r) ∧ Below w.heap.size w w' := by
 have HB := zm (Below.refl w.heap.size w); have H : ((spec_l3Node.f a0).bind fun t415 => (if t415 = true then ((spec_PutNum.f k a0).bind fun t416 => ((spec_Crc.f k t416).bind fun t419 => (some (Int.tmod t419 4)))) else (some (-1)))) = some r := h; clear h; replace H := Option.bind_eq_some_iff.mp H; obtain ⟨t415, A20, H⟩ := H; (try dsimp only at H); have A2 := zm A20; clear A20
 by_cases c3 : t415 = true
 ·subst c3; rw [if_pos rfl] at H; replace H := Option.bind_eq_some_iff.mp H; obtain ⟨t416, A40, H⟩ := H; (try dsimp only at H); have A4 := zm A40; clear A40; replace H := Option.bind_eq_some_iff.mp H; obtain ⟨t419, A50, H⟩ := H; (try dsimp only at H); have A5 := zm A50; clear A50; obtain rfl := Option.some.inj H; go_enter Try.func100, Try.ntmps100
  go_wp2_with (first | (refine zg (some 4) #[.int .i64 a0] Try.func72 ?_; (with_reducible refine (spec_l3Node.calls a0 true _ A2.out).mono ?_); rintro e w' ⟨rfl, ⟨nd, rfl⟩⟩; refine ⟨_, rfl, ?_⟩) | (refine zg (some 7) #[.int .i64 a0] Try.func90 ?_; (with_reducible refine (spec_PutNum.calls k a0 t416 _ A4.out).mono ?_); rintro e w6 ⟨v417, rfl, ho0, hb⟩; refine ⟨_, rfl, ?_⟩; have HO418 := zm (Kd.R_lower ho0 (below_size zB)); replace HB := zm (below_step zB hb); clear hb ho0; obtain ⟨Ao7, co7, eo7⟩ := Kd.R_slice HO418.out; subst eo7) | (refine zg (some 8) #[.slice Ao7 t416.length co7] Try.func62 ?_; (with_reducible refine (spec_Crc.calls k _ _ t416 t419 _ ?side1 ?side2 A5.out).mono ?_); (case side1 => repeat (first | exact (Kd.R_reads' HO418.out).2.2 | (with_reducible refine Kd.C_alloc ?_ _) | (with_reducible refine Kd.C_drewN ?_ _) | (with_reducible refine Kd.C_drew ?_))); (case side2 => exact (Kd.R_reads' HO418.out).2.1); rintro e w' ⟨rfl, ⟨nd, rfl⟩⟩; refine ⟨_, rfl, ?_⟩))
  go_ret
  exact ⟨zE, zB⟩
 ·replace c3 := Bool.eq_false_iff.mpr c3; subst c3; rw [zff] at H; obtain rfl := Option.some.inj H; go_enter Try.func100, Try.ntmps100
  go_wp2_with (first | (refine zg (some 4) #[.int .i64 a0] Try.func72 ?_; (with_reducible refine (spec_l3Node.calls a0 false _ A2.out).mono ?_); rintro e w' ⟨rfl, ⟨nd, rfl⟩⟩; refine ⟨_, rfl, ?_⟩))
  go_ret
  exact ⟨zE, zB⟩

/-! ### spec_l6Slice: function 63 -/
mutual
def spec_l6Slice.l0 : Nat → List Int → Int → List (S68) → List (S72) → List (S68) → Option ((List (S68)) × (List (S72)))
 | 0, _, _, _, _, _ => none
 | k + 1, x1, x6, x421000, x421001, x423000 => if x6 < (x421000.length : Int) then (if 0 ≤ x6 then ((spec_LeafOf.f k ((rd_T68 x421000 x6).f0)).bind fun t424 => ((spec_l1Has.f k x1 t424).bind fun t425 => (if t425 = true then (if x423000.length < 2513169434916 then (spec_l6Slice.l0 k x1 (wrap64 (x6 + 1)) x421000 x421001 (x423000 ++ [(⟨(rd_T68 x421000 x6).f0, (⟨(rd_T68 x421000 x6).f1.f0, (rd_T68 x421000 x6).f1.f1, (rd_T68 x421000 x6).f1.f2, (rd_T68 x421000 x6).f1.f3, (rd_T68 x421000 x6).f1.f4⟩ : S66)⟩ : S68)])) else (none)) else (spec_l6Slice.l0 k x1 (wrap64 (x6 + 1)) x421000 x421001 x423000)))) else (none)) else (spec_l6Slice.l1 k x1 0 x421000 x421001 x423000 ([] : List (S72)))
def spec_l6Slice.l1 : Nat → List Int → Int → List (S68) → List (S72) → List (S68) → List (S72) → Option ((List (S68)) × (List (S72)))
 | 0, _, _, _, _, _, _ => none
 | k + 1, x1, x7, x421000, x421001, x423000, x423001 => if x7 < (x421001.length : Int) then (if 0 ≤ x7 then ((spec_LeafOf.f k ((rd_T72 x421001 x7).f0)).bind fun t431 => ((spec_l1Has.f k x1 t431).bind fun t432 => (if t432 = true then (if x423001.length < 8796093022208 then (spec_l6Slice.l1 k x1 (wrap64 (x7 + 1)) x421000 x421001 x423000 (x423001 ++ [(⟨(rd_T72 x421001 x7).f0, (rd_T72 x421001 x7).f1⟩ : S72)])) else (none)) else (spec_l6Slice.l1 k x1 (wrap64 (x7 + 1)) x421000 x421001 x423000 x423001)))) else (none)) else (some (x423000, x423001))
end
def spec_l6Slice.f (k : Nat) (l0_0 : List (S68)) (l0_1 : List (S72)) (l1 : List Int) : Option ((List (S68)) × (List (S72))) := spec_l6Slice.l0 k l1 0 l0_0 l0_1 ([] : List (S68))
theorem spec_l6Slice.mono_l : ∀ k, (∀ y0 y1 y2 y3 y4, LeO (spec_l6Slice.l0 k y0 y1 y2 y3 y4) (spec_l6Slice.l0 (k + 1) y0 y1 y2 y3 y4)) ∧ (∀ y0 y1 y2 y3 y4 y5, LeO (spec_l6Slice.l1 k y0 y1 y2 y3 y4 y5) (spec_l6Slice.l1 (k + 1) y0 y1 y2 y3 y4 y5))
 | 0 => ⟨fun _ _ _ _ _ r h => by simp [spec_l6Slice.l0] at h, fun _ _ _ _ _ _ r h => by simp [spec_l6Slice.l1] at h⟩
 | k + 1 => by
  obtain ⟨ih0, ih1⟩ := spec_l6Slice.mono_l k
  refine ⟨?_, ?_⟩
  ·intro y0 y1 y2 y3 y4
   unfold spec_l6Slice.l0
   repeat' first | (with_reducible first | exact LeO.refl _ | exact LeO.none _ | refine LeO.ite ?_ ?_ | refine LeO.bind ?_ (fun _ => ?_) | apply ih0 | apply ih1 | apply spec_LeafOf.mono | apply spec_l1Has.mono) | apply ih0 | apply ih1 | apply spec_LeafOf.mono | apply spec_l1Has.mono | exact LeO.none _ | refine LeO.ite ?_ ?_ | refine LeO.bind ?_ (fun _ => ?_)
  ·intro y0 y1 y2 y3 y4 y5
   unfold spec_l6Slice.l1
   repeat' first | (with_reducible first | exact LeO.refl _ | exact LeO.none _ | refine LeO.ite ?_ ?_ | refine LeO.bind ?_ (fun _ => ?_) | apply ih0 | apply ih1 | apply spec_LeafOf.mono | apply spec_l1Has.mono) | apply ih0 | apply ih1 | apply spec_LeafOf.mono | apply spec_l1Has.mono | exact LeO.none _ | refine LeO.ite ?_ ?_ | refine LeO.bind ?_ (fun _ => ?_)
theorem spec_l6Slice.mono : ∀ a0 a1 a2 k, LeO (spec_l6Slice.f k a0 a1 a2) (spec_l6Slice.f (k + 1) a0 a1 a2) := by
 intro a0 a1 a2 k; obtain ⟨ih0, ih1⟩ := spec_l6Slice.mono_l k
 unfold spec_l6Slice.f
 repeat' first | (with_reducible first | exact LeO.refl _ | exact LeO.none _ | refine LeO.ite ?_ ?_ | refine LeO.bind ?_ (fun _ => ?_) | apply ih0 | apply ih1 | apply spec_LeafOf.mono | apply spec_l1Has.mono) | apply ih0 | apply ih1 | apply spec_LeafOf.mono | apply spec_l1Has.mono | exact LeO.none _ | refine LeO.ite ?_ ?_ | refine LeO.bind ?_ (fun _ => ?_)
def spec_l6Slice.T6 : Bool × List (List Nat × List Nat) := (true, [([], []), ([0], [0]), ([], []), ([2], [2]), ([], []), ([3, 4], [3, 4]), ([5], [5]), ([6], [6]), ([1, 7], [1, 7]), ([0, 1, 2, 3, 4, 5, 6, 7, 8], []), ([9, 8, 8, 0, 1, 2, 3, 4, 5, 6, 7, 8], [8, 9])])
def spec_l6Slice.B6 : List Nat := [0, 1, 0, 4, 0, 28, 60, 124, 255, 511, 1023]
theorem spec_l6Slice.tab6 : rtab .any (opsOf Try.f63 6) = spec_l6Slice.T6 := by kernel_rfl
theorem spec_l6Slice.bits6 : waitsOk spec_l6Slice.T6.2 spec_l6Slice.B6 = true := by kernel_rfl
def spec_l6Slice.T11 : Bool × List (List Nat × List Nat) := (true, [([], []), ([0], [0]), ([], []), ([2], [2]), ([], []), ([3, 4], [3, 4]), ([5], [5]), ([6], [6]), ([1, 7], [1, 7]), ([0, 1, 2, 3, 4, 5, 6, 7, 8], []), ([9, 8, 8, 0, 1, 2, 3, 4, 5, 6, 7, 8], [8, 9])])
def spec_l6Slice.B11 : List Nat := [0, 1, 0, 4, 0, 28, 60, 124, 255, 511, 1023]
theorem spec_l6Slice.tab11 : rtab .any (opsOf Try.f63 11) = spec_l6Slice.T11 := by kernel_rfl
theorem spec_l6Slice.bits11 : waitsOk spec_l6Slice.T11.2 spec_l6Slice.B11 = true := by kernel_rfl
set_option maxHeartbeats 8000000 in
set_option maxRecDepth 100000 in
theorem spec_l6Slice.calls (k : Nat) (A0_0 : Option Addr) (c0_0 : Nat) (l0_0 : List (S68)) (A0_1 : Option Addr) (c0_1 : Nat) (l0_1 : List (S72)) (A1 : Option Addr) (c1 : Nat) (l1 : List Int) (r1 : List (S68)) (r2 : List (S72)) (w : World) (hr0_0 : Kd.C k68 w A0_0 l0_0.length l0_0) (hc0_0 : l0_0.length ≤ c0_0) (hr0_1 : Kd.C k72 w A0_1 l0_1.length l0_1) (hc0_1 : l0_1.length ≤ c0_1) (hr1 : Kd.C (Kd.int .i64) w A1 l1.length l1) (hc1 : l1.length ≤ c1) (h : spec_l6Slice.f k l0_0 l0_1 l1 = some (r1, r2)) :
  Calls Try.prog 63 #[.agg #[.slice A0_0 l0_0.length c0_0, .slice A0_1 l0_1.length c0_1], .slice A1 l1.length c1] w fun e w' => ∃ v0_ v1_ : Value, e = .returned (.agg #[v0_, v1_]) ∧ Kd.R k68 68 w' w.heap.size (fun _ => True) v0_ r1 ∧ Kd.R k72 72 w' w.heap.size (fun _ => True) v1_ r2 ∧ Below w.heap.size w w' := by
 have hu32 := Try.underlying32; have hu68 := Try.underlying68; have hu72 := Try.underlying72; have HR0_0 := zm hr0_0; have HC0_0 := zm hc0_0; clear hr0_0 hc0_0; have HR0_1 := zm hr0_1; have HC0_1 := zm hc0_1; clear hr0_1 hc0_1; have HR1 := zm hr1; have HC1 := zm hc1; clear hr1 hc1; have HB := zm (Below.refl w.heap.size w); have H : (spec_l6Slice.l0 k l1 0 l0_0 l0_1 ([] : List (S68))) = some (r1, r2) := h; clear h
 have H' := zm H
 clear H; go_enter Try.func63, Try.ntmps63
 go_wp2_with (first | (refine zbox 2 #[.slice A0_0 l0_0.length c0_0, .slice A0_1 l0_1.length c0_1] 32 ?_; intro gb420 hg w3 hbox hb; have BK420 := zm (hbox); have GW420 := zge w hg zB; have GE420 := zge w hg zB; replace HB := zm (below_step zB hb); clear hb hbox hg) | (refine zbox 4 #[.slice none 0 0, .slice none 0 0] 32 ?_; intro gb421 hg w4 hbox hb; have BK421 := zm (hbox); have GW421 := zge w hg zB; have GE421 := zge w hg zB; replace HB := zm (below_step zB hb); have NB420_421 := zlt hg (zb BK420); have NB421_420 := zgt hg (zb BK420); replace BK420 := zy BK420 hb; clear hb hbox hg) | (refine zbox 5 #[.slice none 0 0, .slice none 0 0] 32 ?_; intro gb422 hg w5 hbox hb; have BK422 := zm (hbox); have GW422 := zge w hg zB; have GE422 := zge w hg zB; replace HB := zm (below_step zB hb); have NB420_422 := zlt hg (zb BK420); have NB422_420 := zgt hg (zb BK420); replace BK420 := zy BK420 hb; have NB421_422 := zlt hg (zb BK421); have NB422_421 := zgt hg (zb BK421); replace BK421 := zy BK421 hb; clear hb hbox hg; have hnb6 := NB422_420.out; have hnc6 := NB420_422.out; have hnb7 := NB422_421.out; have hnc7 := NB421_422.out; obtain ⟨hcz8_0, hcz8_1, hfz8_0, hfz8_1⟩ := zc2 BK422))
 go_loopg [6] k (fun kq v6 w' => ∃ (x6_1 : Int) (x423000_1 : List (S68)) (u423000 : Value), v6 = .int .i64 x6_1 ∧ Aside0 (spec_l6Slice.l0 kq l1 x6_1 l0_0 l0_1 x423000_1 = some (r1, r2)) ∧ Aside0 (kq ≤ k) ∧ Aside0 (Kd.R k68 68 w' w.heap.size (fun _ => True) u423000 x423000_1) ∧ Aside0 (w'.heap[gb420]? = some (.cells #[(.slice A0_0 l0_0.length c0_0), (.slice A0_1 l0_1.length c0_1)] 32 (0, 0))) ∧ Aside0 (w'.heap[gb421]? = some (.cells #[(.slice none 0 0), (.slice none 0 0)] 32 (0, 0))) ∧ Aside0 (w'.heap[gb422]? = some (.cells #[u423000, (.slice none 0 0)] 32 (0, 0))) ∧ Aside0 (Below w.heap.size w w'))
 case atStart => exact ⟨(0), (([] : List (S68))), (.slice none 0 0), zF, H', ⟨Nat.le_refl _⟩, ⟨znil⟩, ⟨zfar (zfar (zb BK420) NB420_422) NB420_422⟩, ⟨zfar (zfar (zb BK421) NB421_422) NB421_422⟩, ⟨zput (zput (zb BK422) 0) 1⟩, ⟨zB⟩⟩
 case round =>
  clear H'; (try clear c1); (try clear hcz8_0); (try clear hcz8_1); (try clear hfz8_0); (try clear hfz8_1); obtain ⟨x6_1, x423000_1, u423000, rfl, HA, HK1, HO_423000, BK420, BK421, BK422, HB⟩ := hrel
  cases gk with
  | zero => exact absurd HA.out (by simp [spec_l6Slice.l0])
  | succ k1 =>
   have H := HA.out; clear HA; simp only [spec_l6Slice.l0] at H
   by_cases c9 : x6_1 < (l0_0.length : Int)
   ·rw [if_pos c9] at H; have c9b0 : decide (x6_1 < (l0_0.length : Int)) = true := decide_eq_true c9; clear c9
    by_cases c10 : 0 ≤ x6_1
    ·rw [if_pos c10] at H; have c10b0 : decide (0 ≤ x6_1) = true := decide_eq_true c10; clear c10; replace H := Option.bind_eq_some_iff.mp H; obtain ⟨t424, A110, H⟩ := H; (try dsimp only at H); have A11 := zm A110; clear A110; replace H := Option.bind_eq_some_iff.mp H; obtain ⟨t425, A120, H⟩ := H; (try dsimp only at H); have A12 := zm A120; clear A120
     by_cases c13 : t425 = true
     ·subst c13; rw [if_pos rfl] at H
      by_cases c14 : x423000_1.length < 2513169434916
      ·rw [if_pos c14] at H; have LMc14 := zm c14; clear c14
       obtain ⟨y427, hy427⟩ : ∃ y_ : List (S68), y_ = (x423000_1 ++ [(⟨(rd_T68 l0_0 x6_1).f0, (⟨(rd_T68 l0_0 x6_1).f1.f0, (rd_T68 l0_0 x6_1).f1.f1, (rd_T68 l0_0 x6_1).f1.f2, (rd_T68 l0_0 x6_1).f1.f3, (rd_T68 l0_0 x6_1).f1.f4⟩ : S66)⟩ : S68)]) := ⟨_, rfl⟩
       replace H : (spec_l6Slice.l0 k1 l1 (wrap64 (x6_1 + 1)) l0_0 l0_1 y427) = some (r1, r2) := by first | (rw [hy427]; with_reducible exact H) | (have H2_ := (Option.bind_some _ _).symm.trans H; rw [hy427]; with_reducible exact H2_) | (have H2_ := (Option.bind_some _ _).symm.trans H; with_reducible exact H2_) | with_reducible exact H | (rw [hy427]; exact H) | exact H
       have Ny427 := zm hy427; clear hy427
       have H' := zm H
       clear H; have hnb15 := NB420_421.out; have hnc15 := NB421_420.out; have hnb16 := NB420_422.out; have hnc16 := NB422_420.out; obtain ⟨hcz17_0, hcz17_1, hfz17_0, hfz17_1⟩ := zc2 BK420; have p423 : 0 ≤ (x6_1 : Int) := zd; have q423 : x6_1 < (l0_0.length : Int) := zd; obtain ⟨ad423, e423, hx423_0, hx423_1, hx423_2, hx423_3, hx423_4, hx423_5⟩ := at_T68 (Kd.C_below HR0_0.out HB.out) x6_1 p423 q423; cases e423; replace p423 := eq_true p423; replace q423 := eq_true q423
       try go_wp2_with (first | (refine zg (some 23) #[.int .i64 ((rd_T68 l0_0 x6_1).f0)] Try.func100 ?_; (with_reducible refine (spec_LeafOf.calls k1 ((rd_T68 l0_0 x6_1).f0) t424 _ A11.out).mono ?_); rintro e w18 ⟨rfl, hb⟩; refine ⟨_, rfl, ?_⟩; replace HO_423000 := zw HO_423000 hb; replace BK420 := zy BK420 hb; replace BK421 := zy BK421 hb; replace BK422 := zy BK422 hb; replace HB := zm (below_step zB hb); clear hb) | (refine zg (some 24) #[.slice A1 l1.length c1, .int .i64 t424] Try.func99 ?_; (with_reducible refine (spec_l1Has.calls k1 _ _ l1 t424 true _ (zk (Kd.C_below HR1.out HB.out)) HC1.out A12.out).mono ?_); rintro e w' ⟨rfl, ⟨nd, rfl⟩⟩; refine ⟨_, rfl, ?_⟩; (try (rw [drewN_self w18]; generalize hq_ : World.drewN w18 _ = w18; have n0_ := zm (Kd.R_at hq_ HO_423000.out); have n1_ := zm (blk_at hq_ BK420.out); have n2_ := zm (blk_at hq_ BK421.out); have n3_ := zm (blk_at hq_ BK422.out); have n4_ := zm (below_at hq_ HB.out); clear hq_ HO_423000 BK420 BK421 BK422 HB; have HO_423000 := n0_; have BK420 := n1_; have BK421 := n2_; have BK422 := n3_; have HB := n4_; clear n0_ n1_ n2_ n3_ n4_))))
       replace HO_423000 := zm (Kd.R_drew HO_423000.out); replace BK420 := zq BK420; replace BK421 := zq BK421; replace BK422 := zq BK422; replace HB := zm (below_drew1 HB.out); have p426 : 0 ≤ (x6_1 : Int) := zd; have q426 : x6_1 < (l0_0.length : Int) := zd; obtain ⟨ad426, e426, hx426_0, hx426_1, hx426_2, hx426_3, hx426_4, hx426_5⟩ := at_T68 HR0_0.out x6_1 p426 q426; have hw426_5 := hx426_5; have hw426_4 := hx426_4; have hw426_3 := hx426_3; have hw426_2 := hx426_2; have hw426_1 := hx426_1; have hw426_0 := hx426_0
       obtain rfl : ad423 = ad426 := (by injection e426)
       replace hx426_0 := zx HB hx426_0; replace hx426_1 := zx HB hx426_1; replace hx426_2 := zx HB hx426_2; replace hx426_3 := zx HB hx426_3; replace hx426_4 := zx HB hx426_4; replace hx426_5 := zx HB hx426_5; replace p426 := eq_true p426; replace q426 := eq_true q426
       refine start_ (n := 11) (S := fun w' => w'.cell? ⟨gb422, 0, none⟩ = some (u423000) ∧ w'.cell? ⟨gb422, 1, none⟩ = some (.slice none 0 0) ∧ w'.cell? ⟨gb420, 0, none⟩ = some (.slice (some ad423) l0_0.length c0_0) ∧ w'.cell? ⟨gb420, 1, none⟩ = some (.slice A0_1 l0_1.length c0_1) ∧ w'.cell? (ad423.add ((x6_1).toNat * 6)) = some (.int .i64 ((rd_T68 l0_0 x6_1).f0)) ∧ w'.cell? ⟨(ad423.add ((x6_1).toNat * 6)).block, (ad423.add ((x6_1).toNat * 6)).off + 1, none⟩ = some (.int .i64 ((rd_T68 l0_0 x6_1).f1.f0)) ∧ w'.cell? ⟨(ad423.add ((x6_1).toNat * 6)).block, (ad423.add ((x6_1).toNat * 6)).off + 2, none⟩ = some (.int .i64 ((rd_T68 l0_0 x6_1).f1.f1)) ∧ w'.cell? ⟨(ad423.add ((x6_1).toNat * 6)).block, (ad423.add ((x6_1).toNat * 6)).off + 3, none⟩ = some (.int .i64 ((rd_T68 l0_0 x6_1).f1.f2)) ∧ w'.cell? ⟨(ad423.add ((x6_1).toNat * 6)).block, (ad423.add ((x6_1).toNat * 6)).off + 4, none⟩ = some (.int .i64 ((rd_T68 l0_0 x6_1).f1.f3)) ∧ w'.cell? ⟨(ad423.add ((x6_1).toNat * 6)).block, (ad423.add ((x6_1).toNat * 6)).off + 5, none⟩ = some (.string ((rd_T68 l0_0 x6_1).f1.f4))) (ds := [10]) (zl 11 0) (by kernel_rfl) rfl rfl zS (fun hHeld => ?_); refine with_tabW spec_l6Slice.tab6 spec_l6Slice.bits6 (fun HT_ HW_ => ?_)
       generalize w18.drew = w19 at HO_423000 BK420 BK421 BK422 HB hx426_0 hx426_1 hx426_2 hx426_3 hx426_4 hx426_5 hHeld ⊢
       refine zu 0 25 11 1 ?_
       refine zu 2 27 11 5 ?_
       refine zu 4 29 11 21 ?_
       refine zv 1 26 11 23 ?_
       refine zv 3 28 11 31 ?_
       refine zu 5 30 11 63 ?_
       refine zv 6 31 11 127 ?_
       refine zo 7 (some 32) (zl 11 255) (fun K hK => ?_)
       refine value_ (w1 := ?_) (v := ?_) (by rfl) rfl ?_ ?_
       rotate_left 2
       ·go_simp
        constructor
        ·rfl
        ·rfl
       refine hK.out _ _ ⟨(blk_cell (blk_alloc BK422.out _) 0).trans rfl, (blk_cell (blk_alloc BK422.out _) 1).trans rfl, (blk_cell (blk_alloc BK420.out _) 0).trans rfl, (blk_cell (blk_alloc BK420.out _) 1).trans rfl, (World.cell?_alloc_lt _ _ _ (World.block_lt_of_cell? _ _ (((HB.out.cell (World.block_lt_of_cell? w _ hw426_0)).trans hw426_0)))).trans (((HB.out.cell (World.block_lt_of_cell? w _ hw426_0)).trans hw426_0)), (World.cell?_alloc_lt _ _ _ (World.block_lt_of_cell? _ _ (((HB.out.cell (World.block_lt_of_cell? w _ hw426_1)).trans hw426_1)))).trans (((HB.out.cell (World.block_lt_of_cell? w _ hw426_1)).trans hw426_1)), (World.cell?_alloc_lt _ _ _ (World.block_lt_of_cell? _ _ (((HB.out.cell (World.block_lt_of_cell? w _ hw426_2)).trans hw426_2)))).trans (((HB.out.cell (World.block_lt_of_cell? w _ hw426_2)).trans hw426_2)), (World.cell?_alloc_lt _ _ _ (World.block_lt_of_cell? _ _ (((HB.out.cell (World.block_lt_of_cell? w _ hw426_3)).trans hw426_3)))).trans (((HB.out.cell (World.block_lt_of_cell? w _ hw426_3)).trans hw426_3)), (World.cell?_alloc_lt _ _ _ (World.block_lt_of_cell? _ _ (((HB.out.cell (World.block_lt_of_cell? w _ hw426_4)).trans hw426_4)))).trans (((HB.out.cell (World.block_lt_of_cell? w _ hw426_4)).trans hw426_4)), (World.cell?_alloc_lt _ _ _ (World.block_lt_of_cell? _ _ (((HB.out.cell (World.block_lt_of_cell? w _ hw426_5)).trans hw426_5)))).trans (((HB.out.cell (World.block_lt_of_cell? w _ hw426_5)).trans hw426_5))⟩ (fun hHeld => ?_); clear hK K; refine zn (N := some 32) ?_
       refine zo 8 (some 33) (zl 11 511) (fun K hK => ?_)
       refine Kd.R_append_step k68 (w0 := w) w.heap.size (by rfl) (.tmp 26) (.tmp 32) 29 68 (.agg #[(.int .i64 0), (.int .i64 0), (.int .i64 0), (.int .i64 0), (.int .i64 0), (.string ⟨#[]⟩)]) 56 rfl Try.underlying29 info68 rfl (by decide) (by omega) u423000 x423000_1 (⟨(rd_T68 l0_0 x6_1).f0, (⟨(rd_T68 l0_0 x6_1).f1.f0, (rd_T68 l0_0 x6_1).f1.f1, (rd_T68 l0_0 x6_1).f1.f2, (rd_T68 l0_0 x6_1).f1.f3, (rd_T68 l0_0 x6_1).f1.f4⟩ : S66)⟩ : S68) [.int .i64 ((rd_T68 l0_0 x6_1).f0), .int .i64 ((rd_T68 l0_0 x6_1).f1.f0), .int .i64 ((rd_T68 l0_0 x6_1).f1.f1), .int .i64 ((rd_T68 l0_0 x6_1).f1.f2), .int .i64 ((rd_T68 l0_0 x6_1).f1.f3), .string ((rd_T68 l0_0 x6_1).f1.f4)] (fun _ => True) (fun _ => False) rfl rfl ?aP (fun _ hk => hk.elim) ?aF ?aO ?aB ?aS ?aL ?_
       (case aP => exact k68_mkM _ _ _ (⟨(rd_T68 l0_0 x6_1).f0, (⟨(rd_T68 l0_0 x6_1).f1.f0, (rd_T68 l0_0 x6_1).f1.f1, (rd_T68 l0_0 x6_1).f1.f2, (rd_T68 l0_0 x6_1).f1.f3, (rd_T68 l0_0 x6_1).f1.f4⟩ : S66)⟩ : S68))
       (case aB => exact zB)
       (case aF => exact (fun _ _ => trivial))
       (case aO => exact (zr HO_423000))
       (case aS => exact (below_size zB))
       (case aL => have := LMc14.out; omega)
       intro v428 w20 ho hb hg hat; rw [← Ny427.out] at ho; replace BK420 := zgr hg (zb BK420) (Kd.R_ne HO_423000.out BK420.out (by decide)); replace BK421 := zgr hg (zb BK421) (Kd.R_ne HO_423000.out BK421.out (by decide)); replace BK422 := zgr hg (zb BK422) (Kd.R_ne HO_423000.out BK422.out (by decide)); replace HB := zm (hb); have HO429 := zm (ho); clear HO_423000; clear ho hb hg hat; obtain ⟨Ao21, co21, eo21⟩ := Kd.R_slice HO429.out
       (first | subst eo21 | (injection eo21 with f1_ f2_ f3_; have f4_ := f1_.symm; have f5_ := f3_.symm; clear f1_ f2_ f3_; subst f4_; subst f5_))
       refine hK.out _ _ zS (fun hHeld => ?_); clear hK K; refine zn (N := some 33) ?_
       refine zu 9 34 11 1023 ?_
       refine last_ (i := 10) (N := none) #[true, true, true, true, true, true, true, true, true, true, true] rfl rfl (one_of HT_.out (by kernel_rfl)) (by decide) (fun K hK => ?_)
       have hs22 : w20.cell? ⟨gb422, 0, none⟩ = some (u423000) := (blk_cell BK422.out 0).trans rfl; have hfs22 := blk_frozen BK422.out 0; have hns22_0 := NB420_422.out; have hns22_1 := NB421_422.out; have hms22_0 := NB422_420.out; have hms22_1 := NB422_421.out
       refine skip_ (w1 := ?_) (by rfl) rfl ?_ ?_
       rotate_left
       ·go_simp
        rfl
       refine hK.out _ _ ?_; clear hK K
       refine done_ (done_of HT_.out (by kernel_rfl)) ?_
       try go_wp2
       go_roundg k1
       case measure => have := HK1.out; omega
       case rel => exact ⟨(wrap64 (x6_1 + 1)), (y427), (.slice Ao21 y427.length co21), zF, H', ⟨by have := HK1.out; omega⟩, ⟨zrs <| Kd.R_mono (zfr (Kd.R_types HO429.out BK422.out (by decide))) (fun _ hk => trivial)⟩, ⟨zfar (zb BK420) NB420_422⟩, ⟨zfar (zb BK421) NB421_422⟩, ⟨zput (zb BK422) 0⟩, ⟨zB⟩⟩
      ·rw [if_neg c14] at H
       exact absurd H (by simp)
     ·replace c13 := Bool.eq_false_iff.mpr c13; subst c13; rw [zff] at H
      have H' := zm H
      clear H; have hnb23 := NB420_421.out; have hnc23 := NB421_420.out; have hnb24 := NB420_422.out; have hnc24 := NB422_420.out; obtain ⟨hcz25_0, hcz25_1, hfz25_0, hfz25_1⟩ := zc2 BK420; have p423 : 0 ≤ (x6_1 : Int) := zd; have q423 : x6_1 < (l0_0.length : Int) := zd; obtain ⟨ad423, e423, hx423_0, hx423_1, hx423_2, hx423_3, hx423_4, hx423_5⟩ := at_T68 (Kd.C_below HR0_0.out HB.out) x6_1 p423 q423; cases e423; replace p423 := eq_true p423; replace q423 := eq_true q423
      go_wp2_with (first | (refine zg (some 23) #[.int .i64 ((rd_T68 l0_0 x6_1).f0)] Try.func100 ?_; (with_reducible refine (spec_LeafOf.calls k1 ((rd_T68 l0_0 x6_1).f0) t424 _ A11.out).mono ?_); rintro e w26 ⟨rfl, hb⟩; refine ⟨_, rfl, ?_⟩; replace HO_423000 := zw HO_423000 hb; replace BK420 := zy BK420 hb; replace BK421 := zy BK421 hb; replace BK422 := zy BK422 hb; replace HB := zm (below_step zB hb); clear hb) | (refine zg (some 24) #[.slice A1 l1.length c1, .int .i64 t424] Try.func99 ?_; (with_reducible refine (spec_l1Has.calls k1 _ _ l1 t424 false _ (zk (Kd.C_below HR1.out HB.out)) HC1.out A12.out).mono ?_); rintro e w' ⟨rfl, ⟨nd, rfl⟩⟩; refine ⟨_, rfl, ?_⟩))
      go_roundg k1
      case measure => have := HK1.out; omega
      case rel => exact ⟨(wrap64 (x6_1 + 1)), (x423000_1), (u423000), zF, H', ⟨by have := HK1.out; omega⟩, ⟨zr HO_423000⟩, ⟨zb BK420⟩, ⟨zb BK421⟩, ⟨zb BK422⟩, ⟨zB⟩⟩
    ·rw [if_neg c10] at H
     exact absurd H (by simp)
   ·rw [if_neg c9] at H; have c9b0 : decide (x6_1 < (l0_0.length : Int)) = false := decide_eq_false c9; clear c9
    have H' := zm H
    clear H; have hnb27 := NB420_421.out; have hnc27 := NB421_420.out; have hnb28 := NB420_422.out; have hnc28 := NB422_420.out; obtain ⟨hcz29_0, hcz29_1, hfz29_0, hfz29_1⟩ := zc2 BK420
    go_wp2
    go_loopg [7] k1 (fun kq v7 w' => ∃ (x7_2 : Int) (x423001_2 : List (S72)) (u423001 : Value), v7 = .int .i64 x7_2 ∧ Aside0 (spec_l6Slice.l1 kq l1 x7_2 l0_0 l0_1 x423000_1 x423001_2 = some (r1, r2)) ∧ Aside0 (kq ≤ k1) ∧ Aside0 (Kd.R k68 68 w' w.heap.size (fun _ => True) u423000 x423000_1) ∧ Aside0 (Kd.R k72 72 w' w.heap.size (fun _ => True) u423001 x423001_2) ∧ Aside0 (w'.heap[gb420]? = some (.cells #[(.slice A0_0 l0_0.length c0_0), (.slice A0_1 l0_1.length c0_1)] 32 (0, 0))) ∧ Aside0 (w'.heap[gb421]? = some (.cells #[(.slice none 0 0), (.slice none 0 0)] 32 (0, 0))) ∧ Aside0 (w'.heap[gb422]? = some (.cells #[u423000, u423001] 32 (0, 0))) ∧ Aside0 (Below w.heap.size w w'))
    case atStart => exact ⟨(0), (([] : List (S72))), (.slice none 0 0), zF, H', ⟨Nat.le_refl _⟩, ⟨zr HO_423000⟩, ⟨znil⟩, ⟨zb BK420⟩, ⟨zb BK421⟩, ⟨zb BK422⟩, ⟨zB⟩⟩
    case round =>
     clear H'; (try clear c1); (try clear c9); (try clear c9b0); (try clear hcz29_0); (try clear hcz29_1); (try clear hcz8_0); (try clear hcz8_1); (try clear hfz29_0); (try clear hfz29_1); (try clear hfz8_0); (try clear hfz8_1); obtain ⟨x7_2, x423001_2, u423001, rfl, HA, HK2, HO_423000, HO_423001, BK420, BK421, BK422, HB⟩ := hrel
     cases gk with
     | zero => exact absurd HA.out (by simp [spec_l6Slice.l1])
     | succ k2 =>
      have H := HA.out; clear HA; simp only [spec_l6Slice.l1] at H
      by_cases c30 : x7_2 < (l0_1.length : Int)
      ·rw [if_pos c30] at H; have c30b0 : decide (x7_2 < (l0_1.length : Int)) = true := decide_eq_true c30; clear c30
       by_cases c31 : 0 ≤ x7_2
       ·rw [if_pos c31] at H; have c31b0 : decide (0 ≤ x7_2) = true := decide_eq_true c31; clear c31; replace H := Option.bind_eq_some_iff.mp H; obtain ⟨t431, A320, H⟩ := H; (try dsimp only at H); have A32 := zm A320; clear A320; replace H := Option.bind_eq_some_iff.mp H; obtain ⟨t432, A330, H⟩ := H; (try dsimp only at H); have A33 := zm A330; clear A330
        by_cases c34 : t432 = true
        ·subst c34; rw [if_pos rfl] at H
         by_cases c35 : x423001_2.length < 8796093022208
         ·rw [if_pos c35] at H; have LMc35 := zm c35; clear c35
          obtain ⟨y434, hy434⟩ : ∃ y_ : List (S72), y_ = (x423001_2 ++ [(⟨(rd_T72 l0_1 x7_2).f0, (rd_T72 l0_1 x7_2).f1⟩ : S72)]) := ⟨_, rfl⟩
          replace H : (spec_l6Slice.l1 k2 l1 (wrap64 (x7_2 + 1)) l0_0 l0_1 x423000_1 y434) = some (r1, r2) := by first | (rw [hy434]; with_reducible exact H) | (have H2_ := (Option.bind_some _ _).symm.trans H; rw [hy434]; with_reducible exact H2_) | (have H2_ := (Option.bind_some _ _).symm.trans H; with_reducible exact H2_) | with_reducible exact H | (rw [hy434]; exact H) | exact H
          have Ny434 := zm hy434; clear hy434
          have H' := zm H
          clear H; have hnb36 := NB420_421.out; have hnc36 := NB421_420.out; have hnb37 := NB420_422.out; have hnc37 := NB422_420.out; obtain ⟨hcz38_0, hcz38_1, hfz38_0, hfz38_1⟩ := zc2 BK420; have p430 : 0 ≤ (x7_2 : Int) := zd; have q430 : x7_2 < (l0_1.length : Int) := zd; obtain ⟨ad430, e430, hx430_0, hx430_1⟩ := at_T72 (Kd.C_below HR0_1.out HB.out) x7_2 p430 q430; cases e430; replace p430 := eq_true p430; replace q430 := eq_true q430
          try go_wp2_with (first | (refine zg (some 49) #[.int .i64 ((rd_T72 l0_1 x7_2).f0)] Try.func100 ?_; (with_reducible refine (spec_LeafOf.calls k2 ((rd_T72 l0_1 x7_2).f0) t431 _ A32.out).mono ?_); rintro e w39 ⟨rfl, hb⟩; refine ⟨_, rfl, ?_⟩; replace HO_423000 := zw HO_423000 hb; replace HO_423001 := zw HO_423001 hb; replace BK420 := zy BK420 hb; replace BK421 := zy BK421 hb; replace BK422 := zy BK422 hb; replace HB := zm (below_step zB hb); clear hb) | (refine zg (some 50) #[.slice A1 l1.length c1, .int .i64 t431] Try.func99 ?_; (with_reducible refine (spec_l1Has.calls k2 _ _ l1 t431 true _ (zk (Kd.C_below HR1.out HB.out)) HC1.out A33.out).mono ?_); rintro e w' ⟨rfl, ⟨nd, rfl⟩⟩; refine ⟨_, rfl, ?_⟩; (try (rw [drewN_self w39]; generalize hq_ : World.drewN w39 _ = w39; have n0_ := zm (Kd.R_at hq_ HO_423000.out); have n1_ := zm (Kd.R_at hq_ HO_423001.out); have n2_ := zm (blk_at hq_ BK420.out); have n3_ := zm (blk_at hq_ BK421.out); have n4_ := zm (blk_at hq_ BK422.out); have n5_ := zm (below_at hq_ HB.out); clear hq_ HO_423000 HO_423001 BK420 BK421 BK422 HB; have HO_423000 := n0_; have HO_423001 := n1_; have BK420 := n2_; have BK421 := n3_; have BK422 := n4_; have HB := n5_; clear n0_ n1_ n2_ n3_ n4_ n5_))))
          replace HO_423000 := zm (Kd.R_drew HO_423000.out); replace HO_423001 := zm (Kd.R_drew HO_423001.out); replace BK420 := zq BK420; replace BK421 := zq BK421; replace BK422 := zq BK422; replace HB := zm (below_drew1 HB.out); have p433 : 0 ≤ (x7_2 : Int) := zd; have q433 : x7_2 < (l0_1.length : Int) := zd; obtain ⟨ad433, e433, hx433_0, hx433_1⟩ := at_T72 HR0_1.out x7_2 p433 q433; have hw433_1 := hx433_1; have hw433_0 := hx433_0
          obtain rfl : ad430 = ad433 := (by injection e433)
          replace hx433_0 := zx HB hx433_0; replace hx433_1 := zx HB hx433_1; replace p433 := eq_true p433; replace q433 := eq_true q433
          refine start_ (n := 11) (S := fun w' => w'.cell? ⟨gb422, 0, none⟩ = some (u423000) ∧ w'.cell? ⟨gb422, 1, none⟩ = some (u423001) ∧ w'.cell? ⟨gb420, 0, none⟩ = some (.slice A0_0 l0_0.length c0_0) ∧ w'.cell? ⟨gb420, 1, none⟩ = some (.slice (some ad430) l0_1.length c0_1) ∧ w'.cell? (ad430.add ((x7_2).toNat * 2)) = some (.int .i64 ((rd_T72 l0_1 x7_2).f0)) ∧ w'.cell? ⟨(ad430.add ((x7_2).toNat * 2)).block, (ad430.add ((x7_2).toNat * 2)).off + 1, none⟩ = some (.int .i64 ((rd_T72 l0_1 x7_2).f1))) (ds := [10]) (zl 11 0) (by kernel_rfl) rfl rfl zS (fun hHeld => ?_); refine with_tabW spec_l6Slice.tab11 spec_l6Slice.bits11 (fun HT_ HW_ => ?_)
          generalize w39.drew = w40 at HO_423000 HO_423001 BK420 BK421 BK422 HB hx433_0 hx433_1 hHeld ⊢
          refine zu 0 51 11 1 ?_
          refine zu 2 53 11 5 ?_
          refine zu 4 55 11 21 ?_
          refine zv 1 52 11 23 ?_
          refine zv 3 54 11 31 ?_
          refine zu 5 56 11 63 ?_
          refine zv 6 57 11 127 ?_
          refine zo 7 (some 58) (zl 11 255) (fun K hK => ?_)
          refine value_ (w1 := ?_) (v := ?_) (by rfl) rfl ?_ ?_
          rotate_left 2
          ·go_simp
           constructor
           ·rfl
           ·rfl
          refine hK.out _ _ ⟨(blk_cell (blk_alloc BK422.out _) 0).trans rfl, (blk_cell (blk_alloc BK422.out _) 1).trans rfl, (blk_cell (blk_alloc BK420.out _) 0).trans rfl, (blk_cell (blk_alloc BK420.out _) 1).trans rfl, (World.cell?_alloc_lt _ _ _ (World.block_lt_of_cell? _ _ (((HB.out.cell (World.block_lt_of_cell? w _ hw433_0)).trans hw433_0)))).trans (((HB.out.cell (World.block_lt_of_cell? w _ hw433_0)).trans hw433_0)), (World.cell?_alloc_lt _ _ _ (World.block_lt_of_cell? _ _ (((HB.out.cell (World.block_lt_of_cell? w _ hw433_1)).trans hw433_1)))).trans (((HB.out.cell (World.block_lt_of_cell? w _ hw433_1)).trans hw433_1))⟩ (fun hHeld => ?_); clear hK K; refine zn (N := some 58) ?_; refine zo 8 (some 59) (zl 11 511) (fun K hK => ?_)
          refine Kd.R_append_step k72 (w0 := w) w.heap.size (by rfl) (.tmp 52) (.tmp 58) 30 72 (.agg #[(.int .i64 0), (.int .i64 0)]) 16 rfl Try.underlying30 info72 rfl (by decide) (by omega) u423001 x423001_2 (⟨(rd_T72 l0_1 x7_2).f0, (rd_T72 l0_1 x7_2).f1⟩ : S72) [.int .i64 ((rd_T72 l0_1 x7_2).f0), .int .i64 ((rd_T72 l0_1 x7_2).f1)] (fun _ => True) (fun _ => False) rfl rfl ?aP (fun _ hk => hk.elim) ?aF ?aO ?aB ?aS ?aL ?_
          (case aP => exact k72_mkM _ _ _ (⟨(rd_T72 l0_1 x7_2).f0, (rd_T72 l0_1 x7_2).f1⟩ : S72))
          (case aB => exact zB)
          (case aF => exact (fun _ _ => trivial))
          (case aO => exact (zr HO_423001))
          (case aS => exact (below_size zB))
          (case aL => have := LMc35.out; omega)
          intro v435 w41 ho hb hg hat; rw [← Ny434.out] at ho; replace HO_423000 := zm (Kd.R_over' (zr HO_423000) (Kd.R_typed (zr HO_423001)) (by decide) hg); replace BK420 := zgr hg (zb BK420) (Kd.R_ne HO_423001.out BK420.out (by decide)); replace BK421 := zgr hg (zb BK421) (Kd.R_ne HO_423001.out BK421.out (by decide)); replace BK422 := zgr hg (zb BK422) (Kd.R_ne HO_423001.out BK422.out (by decide)); replace HB := zm (hb); have HO436 := zm (ho); clear HO_423001; clear ho hb hg hat; obtain ⟨Ao42, co42, eo42⟩ := Kd.R_slice HO436.out
          (first | subst eo42 | (injection eo42 with f1_ f2_ f3_; have f4_ := f1_.symm; have f5_ := f3_.symm; clear f1_ f2_ f3_; subst f4_; subst f5_))
          refine hK.out _ _ zS (fun hHeld => ?_); clear hK K; refine zn (N := some 59) ?_
          refine zu 9 60 11 1023 ?_
          refine last_ (i := 10) (N := none) #[true, true, true, true, true, true, true, true, true, true, true] rfl rfl (one_of HT_.out (by kernel_rfl)) (by decide) (fun K hK => ?_)
          have hs43 : w41.cell? ⟨gb422, 1, none⟩ = some (u423001) := (blk_cell BK422.out 1).trans rfl; have hfs43 := blk_frozen BK422.out 1; have hns43_0 := NB420_422.out; have hns43_1 := NB421_422.out; have hms43_0 := NB422_420.out; have hms43_1 := NB422_421.out
          refine skip_ (w1 := ?_) (by rfl) rfl ?_ ?_
          rotate_left
          ·go_simp
           rfl
          refine hK.out _ _ ?_; clear hK K
          refine done_ (done_of HT_.out (by kernel_rfl)) ?_
          try go_wp2
          go_roundg k2
          case measure => have := HK1.out; have := HK2.out; omega
          case rel => exact ⟨(wrap64 (x7_2 + 1)), (y434), (.slice Ao42 y434.length co42), zF, H', ⟨by have := HK1.out; have := HK2.out; omega⟩, ⟨zrs <| Kd.R_mono (zfr (Kd.R_types HO_423000.out BK422.out (by decide))) (fun _ hk => trivial)⟩, ⟨zrs <| Kd.R_mono (zfr (Kd.R_types HO436.out BK422.out (by decide))) (fun _ hk => trivial)⟩, ⟨zfar (zb BK420) NB420_422⟩, ⟨zfar (zb BK421) NB421_422⟩, ⟨zput (zb BK422) 1⟩, ⟨zB⟩⟩
         ·rw [if_neg c35] at H
          exact absurd H (by simp)
        ·replace c34 := Bool.eq_false_iff.mpr c34; subst c34; rw [zff] at H
         have H' := zm H
         clear H; have hnb44 := NB420_421.out; have hnc44 := NB421_420.out; have hnb45 := NB420_422.out; have hnc45 := NB422_420.out; obtain ⟨hcz46_0, hcz46_1, hfz46_0, hfz46_1⟩ := zc2 BK420; have p430 : 0 ≤ (x7_2 : Int) := zd; have q430 : x7_2 < (l0_1.length : Int) := zd; obtain ⟨ad430, e430, hx430_0, hx430_1⟩ := at_T72 (Kd.C_below HR0_1.out HB.out) x7_2 p430 q430; cases e430; replace p430 := eq_true p430; replace q430 := eq_true q430
         go_wp2_with (first | (refine zg (some 49) #[.int .i64 ((rd_T72 l0_1 x7_2).f0)] Try.func100 ?_; (with_reducible refine (spec_LeafOf.calls k2 ((rd_T72 l0_1 x7_2).f0) t431 _ A32.out).mono ?_); rintro e w47 ⟨rfl, hb⟩; refine ⟨_, rfl, ?_⟩; replace HO_423000 := zw HO_423000 hb; replace HO_423001 := zw HO_423001 hb; replace BK420 := zy BK420 hb; replace BK421 := zy BK421 hb; replace BK422 := zy BK422 hb; replace HB := zm (below_step zB hb); clear hb) | (refine zg (some 50) #[.slice A1 l1.length c1, .int .i64 t431] Try.func99 ?_; (with_reducible refine (spec_l1Has.calls k2 _ _ l1 t431 false _ (zk (Kd.C_below HR1.out HB.out)) HC1.out A33.out).mono ?_); rintro e w' ⟨rfl, ⟨nd, rfl⟩⟩; refine ⟨_, rfl, ?_⟩))
         go_roundg k2
         case measure => have := HK1.out; have := HK2.out; omega
         case rel => exact ⟨(wrap64 (x7_2 + 1)), (x423001_2), (u423001), zF, H', ⟨by have := HK1.out; have := HK2.out; omega⟩, ⟨zr HO_423000⟩, ⟨zr HO_423001⟩, ⟨zb BK420⟩, ⟨zb BK421⟩, ⟨zb BK422⟩, ⟨zB⟩⟩
       ·rw [if_neg c31] at H
        exact absurd H (by simp)
      ·rw [if_neg c30] at H; have c30b0 : decide (x7_2 < (l0_1.length : Int)) = false := decide_eq_false c30; clear c30; simp only [Option.some.injEq, Prod.mk.injEq] at H; obtain ⟨rfl, rfl⟩ := H; have hnb48 := NB420_421.out; have hnc48 := NB421_420.out; have hnb49 := NB420_422.out; have hnc49 := NB422_420.out; obtain ⟨hcz50_0, hcz50_1, hfz50_0, hfz50_1⟩ := zc2 BK420; have hnb51 := NB422_421.out; have hnc51 := NB421_422.out; obtain ⟨hcz52_0, hcz52_1, hfz52_0, hfz52_1⟩ := zc2 BK422; obtain ⟨Ao53, co53, eo53⟩ := Kd.R_slice HO_423000.out; subst eo53; obtain ⟨hcz54_0, hcz54_1, hfz54_0, hfz54_1⟩ := zc2 BK421; obtain ⟨Ao55, co55, eo55⟩ := Kd.R_slice HO_423001.out; subst eo55
       go_wp2
       refine bodyPost_ret (results_cell_row rfl _ _ gb421 32 #[.slice Ao53 x423000_1.length co53, .slice Ao55 x423001_2.length co55] (0, 0) _ rfl (zput (zput (zb BK421) 0) 1) Try.underlying32 rfl (by kernel_rfl)) rfl ?_
       exact ⟨_, _, zE, zrs <| Kd.R_mono (zfr (zfr (Kd.R_types HO_423000.out BK421.out (by decide)))) (fun _ hk => trivial), zrs <| Kd.R_mono (zfr (zfr (Kd.R_types HO_423001.out BK421.out (by decide)))) (fun _ hk => trivial), zB⟩

/-! ### spec_LeafSum: function 22 -/
def spec_LeafSum.j0 : Nat → Int → Bool → List (S68) → List (S72) → Option (Int)
 | 0, _, _, _, _ => none
 | k + 1, x1, x12, x438000, x438001 => if x12 = true then (some 0) else ((spec_l6Slice.f k x438000 x438001 (([x1] : List Int))).bind fun bt443 => ((spec_l6Bytes.f k bt443.1 bt443.2).bind fun t449 => ((spec_Crc.f k t449).bind fun t452 => (some (Int.tmod t452 1024)))))
def spec_LeafSum.f (k : Nat) (l0_0 : List (S68)) (l0_1 : List (S72)) (a1 : Int) : Option (Int) := (spec_StateOk.f k l0_0 l0_1).bind fun t438 => (if t438 = true then ((spec_l1In.f a1 0 3).bind fun t439 => (spec_LeafSum.j0 k a1 (!t439) l0_0 l0_1)) else (spec_LeafSum.j0 k a1 true l0_0 l0_1))
theorem spec_LeafSum.mono_l : ∀ k, (∀ y0 y1 y2 y3, LeO (spec_LeafSum.j0 k y0 y1 y2 y3) (spec_LeafSum.j0 (k + 1) y0 y1 y2 y3))
 | 0 => fun _ _ _ _ r h => by simp [spec_LeafSum.j0] at h
 | k + 1 => by
  have ih0 := spec_LeafSum.mono_l k
  ·intro y0 y1 y2 y3
   unfold spec_LeafSum.j0
   repeat' first | (with_reducible first | exact LeO.refl _ | exact LeO.none _ | refine LeO.ite ?_ ?_ | refine LeO.bind ?_ (fun _ => ?_) | apply ih0 | apply spec_Crc.mono | apply spec_StateOk.mono | apply spec_l6Bytes.mono | apply spec_l6Slice.mono) | apply ih0 | apply spec_Crc.mono | apply spec_StateOk.mono | apply spec_l6Bytes.mono | apply spec_l6Slice.mono | exact LeO.none _ | refine LeO.ite ?_ ?_ | refine LeO.bind ?_ (fun _ => ?_)
theorem spec_LeafSum.mono : ∀ a0 a1 a2 k, LeO (spec_LeafSum.f k a0 a1 a2) (spec_LeafSum.f (k + 1) a0 a1 a2) := by
 intro a0 a1 a2 k; have ih0 := spec_LeafSum.mono_l k
 unfold spec_LeafSum.f
 repeat' first | (with_reducible first | exact LeO.refl _ | exact LeO.none _ | refine LeO.ite ?_ ?_ | refine LeO.bind ?_ (fun _ => ?_) | apply ih0 | apply spec_Crc.mono | apply spec_StateOk.mono | apply spec_l6Bytes.mono | apply spec_l6Slice.mono) | apply ih0 | apply spec_Crc.mono | apply spec_StateOk.mono | apply spec_l6Bytes.mono | apply spec_l6Slice.mono | exact LeO.none _ | refine LeO.ite ?_ ?_ | refine LeO.bind ?_ (fun _ => ?_)
set_option maxHeartbeats 8000000 in
set_option maxRecDepth 100000 in
theorem spec_LeafSum.calls (k : Nat) (A0_0 : Option Addr) (c0_0 : Nat) (l0_0 : List (S68)) (A0_1 : Option Addr) (c0_1 : Nat) (l0_1 : List (S72)) (a1 : Int) (r : Int) (w : World) (hr0_0 : Kd.C k68 w A0_0 l0_0.length l0_0) (hc0_0 : l0_0.length ≤ c0_0) (hr0_1 : Kd.C k72 w A0_1 l0_1.length l0_1) (hc0_1 : l0_1.length ≤ c0_1) (h : spec_LeafSum.f k l0_0 l0_1 a1 = some r) :
  Calls Try.prog 22 #[.agg #[.slice A0_0 l0_0.length c0_0, .slice A0_1 l0_1.length c0_1], .int .i64 a1] w fun e w' => e = .returned (.int .i64 r) ∧ Below w.heap.size w w' := by
 have hu32 := Try.underlying32; have HR0_0 := zm hr0_0; have HC0_0 := zm hc0_0; clear hr0_0 hc0_0; have HR0_1 := zm hr0_1; have HC0_1 := zm hc0_1; clear hr0_1 hc0_1; have HB := zm (Below.refl w.heap.size w); have H : ((spec_StateOk.f k l0_0 l0_1).bind fun t438 => (if t438 = true then ((spec_l1In.f a1 0 3).bind fun t439 => (spec_LeafSum.j0 k a1 (!t439) l0_0 l0_1)) else (spec_LeafSum.j0 k a1 true l0_0 l0_1))) = some r := h; clear h; have HC3 := zm H; clear H; go_enter Try.func22, Try.ntmps22
 go_upto_region 1 with (first | (refine zbox 2 #[.slice A0_0 l0_0.length c0_0, .slice A0_1 l0_1.length c0_1] 32 ?_; intro gb437 hg w4 hbox hb; have BK437 := zm (hbox); have GW437 := zge w hg zB; have GE437 := zge w hg zB; replace HB := zm (below_step zB hb); clear hb hbox hg))
 (try simp only [Act.put, List.setIfInBounds_toArray, List.set_cons_zero, List.set_cons_succ])
 go_cut [12] (fun v12 wc => ∃ (kq : Nat) (x12_2 : Bool), v12 = .bool x12_2 ∧ Aside0 (spec_LeafSum.j0 kq a1 x12_2 l0_0 l0_1 = some r) ∧ Aside0 (kq ≤ k) ∧ Aside0 (wc.heap[gb437]? = some (.cells #[(.slice A0_0 l0_0.length c0_0), (.slice A0_1 l0_1.length c0_1)] 32 (0, 0))) ∧ Aside0 (Below w.heap.size w wc))
 case first =>
  have H := HC3.out; clear HC3; replace H := Option.bind_eq_some_iff.mp H; obtain ⟨t438, A50, H⟩ := H; (try dsimp only at H); have A5 := zm A50; clear A50
  by_cases c6 : t438 = true
  ·subst c6; rw [if_pos rfl] at H; replace H := Option.bind_eq_some_iff.mp H; obtain ⟨t439, A70, H⟩ := H; (try dsimp only at H); have A7 := zm A70; clear A70
   have H' := zm H
   clear H; obtain ⟨hcz8_0, hcz8_1, hfz8_0, hfz8_1⟩ := zc2 BK437
   go_wp2_with (first | (refine zg (some 6) #[.agg #[.slice A0_0 l0_0.length c0_0, .slice A0_1 l0_1.length c0_1]] Try.func49 ?_; (with_reducible refine (spec_StateOk.calls k _ _ l0_0 _ _ l0_1 true _ (zk (Kd.C_below HR0_0.out HB.out)) HC0_0.out (zk (Kd.C_below HR0_1.out HB.out)) HC0_1.out A5.out).mono ?_); rintro e w9 ⟨rfl, hb⟩; refine ⟨_, rfl, ?_⟩; replace BK437 := zy BK437 hb; replace HB := zm (below_step zB hb); clear hb) | (go_at_call 61; (with_reducible refine (spec_l1In.calls a1 0 3 t439 _ A7.out).mono ?_); rintro e w' ⟨rfl, ⟨nd, rfl⟩⟩))
   go_meet
   case rel => exact ⟨_, (!t439), zF, H', ⟨zO⟩, ⟨zb BK437⟩, ⟨zB⟩⟩
  ·replace c6 := Bool.eq_false_iff.mpr c6; subst c6; rw [zff] at H
   have H' := zm H
   clear H; obtain ⟨hcz10_0, hcz10_1, hfz10_0, hfz10_1⟩ := zc2 BK437
   go_wp2_with (first | (refine zg (some 6) #[.agg #[.slice A0_0 l0_0.length c0_0, .slice A0_1 l0_1.length c0_1]] Try.func49 ?_; (with_reducible refine (spec_StateOk.calls k _ _ l0_0 _ _ l0_1 false _ (zk (Kd.C_below HR0_0.out HB.out)) HC0_0.out (zk (Kd.C_below HR0_1.out HB.out)) HC0_1.out A5.out).mono ?_); rintro e w11 ⟨rfl, hb⟩; refine ⟨_, rfl, ?_⟩; replace BK437 := zy BK437 hb; replace HB := zm (below_step zB hb); clear hb))
   go_meet
   case rel => exact ⟨_, (true), zF, H', ⟨zO⟩, ⟨zb BK437⟩, ⟨zB⟩⟩
 case rest =>
  clear HC3; obtain ⟨kq, x12_2, rfl, HA, HJ2, BK437, HB⟩ := hcut
  cases kq with
  | zero => exact absurd HA.out (by simp [spec_LeafSum.j0])
  | succ kj2 =>
   have H := HA.out; clear HA; simp only [spec_LeafSum.j0] at H
   by_cases c12 : x12_2 = true
   ·subst c12; rw [if_pos rfl] at H; obtain rfl := Option.some.inj H
    go_wp2
    go_ret
    exact ⟨zE, zB⟩
   ·replace c12 := Bool.eq_false_iff.mpr c12; subst c12; rw [zff] at H
    obtain ⟨y440, hy440⟩ : ∃ y_ : List Int, y_ = (([a1] : List Int)) := ⟨_, rfl⟩
    replace H : ((spec_l6Slice.f kj2 l0_0 l0_1 y440).bind fun bt443 => ((spec_l6Bytes.f kj2 bt443.1 bt443.2).bind fun t449 => ((spec_Crc.f kj2 t449).bind fun t452 => (some (Int.tmod t452 1024))))) = some r := by first | (rw [hy440]; with_reducible exact H) | (have H2_ := (Option.bind_some _ _).symm.trans H; rw [hy440]; with_reducible exact H2_) | (have H2_ := (Option.bind_some _ _).symm.trans H; with_reducible exact H2_) | with_reducible exact H | (rw [hy440]; exact H) | exact H
    have Ny440 := zm hy440; clear hy440; replace H := Option.bind_eq_some_iff.mp H; obtain ⟨⟨t443, t446⟩, A130, H⟩ := H; (try dsimp only at H); have A13 := zm A130; clear A130; replace H := Option.bind_eq_some_iff.mp H; obtain ⟨t449, A140, H⟩ := H; (try dsimp only at H); have A14 := zm A140; clear A140; replace H := Option.bind_eq_some_iff.mp H; obtain ⟨t452, A150, H⟩ := H; (try dsimp only at H); have A15 := zm A150; clear A150; obtain rfl := Option.some.inj H; obtain ⟨hcz16_0, hcz16_1, hfz16_0, hfz16_1⟩ := zc2 BK437
    go_wp2_with (first | ((with_reducible refine gate_dst (N := 15) rfl ?_); refine Kd.R_lit (Kd.int .i64) _ 3 ?hg (N := 15) ?hd (xs := ([a1] : List Int)) (inner := [.int .i64 a1]) (ok := fun _ => True) (okp := fun _ => True) ?hr ?hp (fun _ hk => hk) trivial (Below.refl _ _) (Nat.le_refl _) (by simp) ?_; (case hd => rfl); (case hg => rfl); (case hr => first | (go_simp; done) | (go_simp; rfl)); (case hp => exact (Reps.one (show Kd.M (Kd.int .i64) _ _ _ a1 [.int .i64 a1] from rfl) (Reps.none _ _))); intro v441 w17 ho18 hb hg_ hnew_; clear hg_ hnew_; (first | rw [← Ny440.out] at ho18 | (simp only [Int.reduceToNat] at ho18; rw [← Ny440.out] at ho18)); have HO442 := zm (Kd.R_lower ho18 (below_size zB)); replace BK437 := zy BK437 hb; replace HB := zm (below_step zB hb); clear hb ho18; obtain ⟨Ao19, co19, eo19⟩ := Kd.R_slice HO442.out; subst eo19) | (refine zg (some 16) #[.agg #[.slice A0_0 l0_0.length c0_0, .slice A0_1 l0_1.length c0_1], .slice Ao19 y440.length co19] Try.func63 ?_; (with_reducible refine (spec_l6Slice.calls kj2 _ _ l0_0 _ _ l0_1 _ _ y440 t443 t446 _ (zk (Kd.C_below HR0_0.out HB.out)) HC0_0.out (zk (Kd.C_below HR0_1.out HB.out)) HC0_1.out ?side5 ?side6 A13.out).mono ?_); (case side5 => repeat (first | exact (Kd.R_reads' HO442.out).2.2 | (with_reducible refine Kd.C_alloc ?_ _) | (with_reducible refine Kd.C_drewN ?_ _) | (with_reducible refine Kd.C_drew ?_))); (case side6 => exact (Kd.R_reads' HO442.out).2.1); rintro e w20 ⟨v444, v447, rfl, ho0, ho1, hb⟩; refine ⟨_, rfl, ?_⟩; replace HO442 := zw HO442 hb; have HO445 := zm (Kd.R_lower ho0 (below_size zB)); have HO448 := zm (Kd.R_lower ho1 (below_size zB)); replace BK437 := zy BK437 hb; replace HB := zm (below_step zB hb); clear hb ho0 ho1; obtain ⟨Ao21, co21, eo21⟩ := Kd.R_slice HO445.out; subst eo21; obtain ⟨Ao22, co22, eo22⟩ := Kd.R_slice HO448.out; subst eo22) | (refine zg (some 17) #[.agg #[.slice Ao21 t443.length co21, .slice Ao22 t446.length co22]] Try.func50 ?_; (with_reducible refine (spec_l6Bytes.calls kj2 _ _ t443 _ _ t446 t449 _ ?side1 ?side2 ?side3 ?side4 A14.out).mono ?_); (case side1 => repeat (first | exact (Kd.R_reads' HO445.out).2.2 | (with_reducible refine Kd.C_alloc ?_ _) | (with_reducible refine Kd.C_drewN ?_ _) | (with_reducible refine Kd.C_drew ?_))); (case side2 => exact (Kd.R_reads' HO445.out).2.1); (case side3 => repeat (first | exact (Kd.R_reads' HO448.out).2.2 | (with_reducible refine Kd.C_alloc ?_ _) | (with_reducible refine Kd.C_drewN ?_ _) | (with_reducible refine Kd.C_drew ?_))); (case side4 => exact (Kd.R_reads' HO448.out).2.1); rintro e w23 ⟨v450, rfl, ho0, hb⟩; refine ⟨_, rfl, ?_⟩; replace HO442 := zw HO442 hb; replace HO445 := zw HO445 hb; replace HO448 := zw HO448 hb; have HO451 := zm (Kd.R_lower ho0 (below_size zB)); replace BK437 := zy BK437 hb; replace HB := zm (below_step zB hb); clear hb ho0; obtain ⟨Ao24, co24, eo24⟩ := Kd.R_slice HO451.out; subst eo24) | (refine zg (some 18) #[.slice Ao24 t449.length co24] Try.func62 ?_; (with_reducible refine (spec_Crc.calls kj2 _ _ t449 t452 _ ?side1 ?side2 A15.out).mono ?_); (case side1 => repeat (first | exact (Kd.R_reads' HO451.out).2.2 | (with_reducible refine Kd.C_alloc ?_ _) | (with_reducible refine Kd.C_drewN ?_ _) | (with_reducible refine Kd.C_drew ?_))); (case side2 => exact (Kd.R_reads' HO451.out).2.1); rintro e w' ⟨rfl, ⟨nd, rfl⟩⟩; refine ⟨_, rfl, ?_⟩))
    go_ret
    exact ⟨zE, zB⟩

/-! ### slices_Index_int_int: function 107 -/
def slices_Index_int_int.l0 : Nat → List Int → Int → Int → Int → Option (Int)
 | 0, _, _, _, _ => none
 | k + 1, x0, x1, x7, x8 => if x8 < x7 then (if 0 ≤ x8 then (if x8 < (x0.length : Int) then (if x1 = (rd x0 x8) then (some x8) else (slices_Index_int_int.l0 k x0 x1 x7 (wrap64 (x8 + 1)))) else (none)) else (none)) else (some (-1))
def slices_Index_int_int.f (k : Nat) (l0 : List Int) (a1 : Int) : Option (Int) := slices_Index_int_int.l0 k l0 a1 (l0.length : Int) 0
theorem slices_Index_int_int.mono_l : ∀ k, (∀ y0 y1 y2 y3, LeO (slices_Index_int_int.l0 k y0 y1 y2 y3) (slices_Index_int_int.l0 (k + 1) y0 y1 y2 y3))
 | 0 => fun _ _ _ _ r h => by simp [slices_Index_int_int.l0] at h
 | k + 1 => by
  have ih0 := slices_Index_int_int.mono_l k
  ·intro y0 y1 y2 y3
   unfold slices_Index_int_int.l0
   repeat' first | (with_reducible first | exact LeO.refl _ | exact LeO.none _ | refine LeO.ite ?_ ?_ | refine LeO.bind ?_ (fun _ => ?_) | apply ih0) | apply ih0 | exact LeO.none _ | refine LeO.ite ?_ ?_ | refine LeO.bind ?_ (fun _ => ?_)
theorem slices_Index_int_int.mono : ∀ a0 a1 k, LeO (slices_Index_int_int.f k a0 a1) (slices_Index_int_int.f (k + 1) a0 a1) := by
 intro a0 a1 k; have ih0 := slices_Index_int_int.mono_l k
 unfold slices_Index_int_int.f
 repeat' first | (with_reducible first | exact LeO.refl _ | exact LeO.none _ | refine LeO.ite ?_ ?_ | refine LeO.bind ?_ (fun _ => ?_) | apply ih0) | apply ih0 | exact LeO.none _ | refine LeO.ite ?_ ?_ | refine LeO.bind ?_ (fun _ => ?_)
set_option maxHeartbeats 8000000 in
set_option maxRecDepth 100000 in
theorem slices_Index_int_int.calls (k : Nat) (A0 : Option Addr) (c0 : Nat) (l0 : List Int) (a1 : Int) (r : Int) (w : World) (hr0 : Kd.C (Kd.int .i64) w A0 l0.length l0) (hc0 : l0.length ≤ c0) (h : slices_Index_int_int.f k l0 a1 = some r) :
  Calls Try.prog 107 #[.slice A0 l0.length c0, .int .i64 a1] w fun e w' => e = .returned (.int .i64 r) ∧ Drawn0 w w' := by
 have HR0 := zm hr0; have HC0 := zm hc0; clear hr0 hc0; have H : (slices_Index_int_int.l0 k l0 a1 (l0.length : Int) 0) = some r := h; clear h
 have H' := zm H
 clear H; go_enter Try.func107, Try.ntmps107
 go_wp2
 go_loopg [8] k (fun kq v8 w' => ∃ (x8_1 : Int), v8 = .int .i64 x8_1 ∧ Aside0 (slices_Index_int_int.l0 kq l0 a1 (l0.length : Int) x8_1 = some r) ∧ Aside0 (kq ≤ k) ∧ Drawn0 w w')
 case atStart => exact ⟨(0), zF, H', ⟨Nat.le_refl _⟩, zD⟩
 case round =>
  clear H'; obtain ⟨x8_1, rfl, HA, HK1, ⟨m1, rfl⟩⟩ := hrel
  cases gk with
  | zero => exact absurd HA.out (by simp [slices_Index_int_int.l0])
  | succ k1 =>
   have H := HA.out; clear HA; simp only [slices_Index_int_int.l0] at H
   by_cases c3 : x8_1 < (l0.length : Int)
   ·rw [if_pos c3] at H; have c3b0 : decide (x8_1 < (l0.length : Int)) = true := decide_eq_true c3; clear c3
    by_cases c4 : 0 ≤ x8_1
    ·rw [if_pos c4] at H; have c4b0 : decide (0 ≤ x8_1) = true := decide_eq_true c4; clear c4
     by_cases c5 : x8_1 < (l0.length : Int)
     ·rw [if_pos c5] at H; have c5b0 : decide (x8_1 < (l0.length : Int)) = true := decide_eq_true c5; clear c5
      by_cases c6 : a1 = (rd l0 x8_1)
      ·rw [if_pos c6] at H; have c6b0 : (a1 == (rd l0 x8_1)) = true := beq_iff_eq.mpr c6; have c6b1 : (a1 != (rd l0 x8_1)) = false := bne_eq_false_iff_eq.mpr c6; clear c6; obtain rfl := Option.some.inj H; have p453 : 0 ≤ (x8_1 : Int) := zd; have q453 : x8_1 < (l0.length : Int) := zd; obtain ⟨ad453, e453, hx453_0⟩ := Kd.at_int HR0.out x8_1 p453 q453; cases e453; replace p453 := eq_true p453; replace q453 := eq_true q453
       go_wp2
       go_ret
       exact ⟨zF, zD⟩
      ·rw [if_neg c6] at H; have c6b0 : (a1 == (rd l0 x8_1)) = false := beq_eq_false_iff_ne.mpr c6; have c6b1 : (a1 != (rd l0 x8_1)) = true := bne_iff_ne.mpr c6
       have H' := zm H
       clear H; have p453 : 0 ≤ (x8_1 : Int) := zd; have q453 : x8_1 < (l0.length : Int) := zd; obtain ⟨ad453, e453, hx453_0⟩ := Kd.at_int HR0.out x8_1 p453 q453; cases e453; replace p453 := eq_true p453; replace q453 := eq_true q453
       go_wp2
       go_roundg k1
       case measure => have := HK1.out; omega
       case rel => exact ⟨(wrap64 (x8_1 + 1)), zF, H', ⟨by have := HK1.out; omega⟩, zD⟩
     ·rw [if_neg c5] at H
      exact absurd H (by simp)
    ·rw [if_neg c4] at H
     exact absurd H (by simp)
   ·rw [if_neg c3] at H; have c3b0 : decide (x8_1 < (l0.length : Int)) = false := decide_eq_false c3; clear c3; obtain rfl := Option.some.inj H
    go_wp2
    go_ret
    exact ⟨zF, zD⟩

/-! ### slices_Contains_int_int: function 81 -/
def slices_Contains_int_int.f (k : Nat) (l0 : List Int) (a1 : Int) : Option (Bool) := (slices_Index_int_int.f k l0 a1).bind fun t454 => (some (decide (t454 ≥ 0)))
theorem slices_Contains_int_int.mono : ∀ a0 a1 k, LeO (slices_Contains_int_int.f k a0 a1) (slices_Contains_int_int.f (k + 1) a0 a1) := by
 intro a0 a1 k
 unfold slices_Contains_int_int.f
 repeat' first | (with_reducible first | exact LeO.refl _ | exact LeO.none _ | refine LeO.ite ?_ ?_ | refine LeO.bind ?_ (fun _ => ?_) | apply slices_Index_int_int.mono) | apply slices_Index_int_int.mono | exact LeO.none _ | refine LeO.ite ?_ ?_ | refine LeO.bind ?_ (fun _ => ?_)
set_option maxHeartbeats 8000000 in
set_option maxRecDepth 100000 in
theorem slices_Contains_int_int.calls (k : Nat) (A0 : Option Addr) (c0 : Nat) (l0 : List Int) (a1 : Int) (r : Bool) (w : World) (hr0 : Kd.C (Kd.int .i64) w A0 l0.length l0) (hc0 : l0.length ≤ c0) (h : slices_Contains_int_int.f k l0 a1 = some r) :
  Calls Try.prog 81 #[.slice A0 l0.length c0, .int .i64 a1] w fun e w' => e = .returned (.bool r) ∧ Drawn0 w w' := by
 have HR0 := zm hr0; have HC0 := zm hc0; clear hr0 hc0; have H : ((slices_Index_int_int.f k l0 a1).bind fun t454 => (some (decide (t454 ≥ 0)))) = some r := h; clear h; replace H := Option.bind_eq_some_iff.mp H; obtain ⟨t454, A30, H⟩ := H; (try dsimp only at H); have A3 := zm A30; clear A30; obtain rfl := Option.some.inj H; go_enter Try.func81, Try.ntmps81
 go_wp2_with (first | (refine zg (some 7) #[.slice A0 l0.length c0, .int .i64 a1] Try.func107 ?_; (with_reducible refine (slices_Index_int_int.calls k _ _ l0 a1 t454 _ (zk HR0.out) HC0.out A3.out).mono ?_); rintro e w' ⟨rfl, ⟨nd, rfl⟩⟩; refine ⟨_, rfl, ?_⟩))
 go_ret
 exact ⟨zF, zD⟩

/-! ### impl_Crc: function 65 -/
mutual
def impl_Crc.l0 : Nat → Int → List Int → Int → Int → Option (Int)
 | 0, _, _, _, _ => none
 | k + 1, x3, x7, x8, x9 => if x9 < x8 then (if 0 ≤ x9 then (if x9 < (x7.length : Int) then (impl_Crc.l1 k (Go.bits .xor .i64 x3 (wrap64 (rd x7 x9))) x7 x8 x9 0) else (none)) else (none)) else (some (Go.bits .xor .i64 x3 4294967295))
def impl_Crc.l1 : Nat → Int → List Int → Int → Int → Int → Option (Int)
 | 0, _, _, _, _, _ => none
 | k + 1, x3, x7, x8, x9, x17 => if x17 < 8 then (if (Int.tmod x3 2) = 1 then (impl_Crc.l1 k (Go.bits .xor .i64 (wrap64 (Int.tdiv x3 2)) 3988292384) x7 x8 x9 (wrap64 (x17 + 1))) else (impl_Crc.l1 k (wrap64 (Int.tdiv x3 2)) x7 x8 x9 (wrap64 (x17 + 1)))) else (impl_Crc.l0 k x3 x7 x8 (wrap64 (x9 + 1)))
end
def impl_Crc.f (k : Nat) (l0 : List Int) : Option (Int) := impl_Crc.l0 k 4294967295 l0 (l0.length : Int) 0
theorem impl_Crc.mono_l : ∀ k, (∀ y0 y1 y2 y3, LeO (impl_Crc.l0 k y0 y1 y2 y3) (impl_Crc.l0 (k + 1) y0 y1 y2 y3)) ∧ (∀ y0 y1 y2 y3 y4, LeO (impl_Crc.l1 k y0 y1 y2 y3 y4) (impl_Crc.l1 (k + 1) y0 y1 y2 y3 y4))
 | 0 => ⟨fun _ _ _ _ r h => by simp [impl_Crc.l0] at h, fun _ _ _ _ _ r h => by simp [impl_Crc.l1] at h⟩
 | k + 1 => by
  obtain ⟨ih0, ih1⟩ := impl_Crc.mono_l k
  refine ⟨?_, ?_⟩
  ·intro y0 y1 y2 y3
   unfold impl_Crc.l0
   repeat' first | (with_reducible first | exact LeO.refl _ | exact LeO.none _ | refine LeO.ite ?_ ?_ | refine LeO.bind ?_ (fun _ => ?_) | apply ih0 | apply ih1) | apply ih0 | apply ih1 | exact LeO.none _ | refine LeO.ite ?_ ?_ | refine LeO.bind ?_ (fun _ => ?_)
  ·intro y0 y1 y2 y3 y4
   unfold impl_Crc.l1
   repeat' first | (with_reducible first | exact LeO.refl _ | exact LeO.none _ | refine LeO.ite ?_ ?_ | refine LeO.bind ?_ (fun _ => ?_) | apply ih0 | apply ih1) | apply ih0 | apply ih1 | exact LeO.none _ | refine LeO.ite ?_ ?_ | refine LeO.bind ?_ (fun _ => ?_)
theorem impl_Crc.mono : ∀ a0 k, LeO (impl_Crc.f k a0) (impl_Crc.f (k + 1) a0) := by
 intro a0 k; obtain ⟨ih0, ih1⟩ := impl_Crc.mono_l k
 unfold impl_Crc.f
 repeat' first | (with_reducible first | exact LeO.refl _ | exact LeO.none _ | refine LeO.ite ?_ ?_ | refine LeO.bind ?_ (fun _ => ?_) | apply ih0 | apply ih1) | apply ih0 | apply ih1 | exact LeO.none _ | refine LeO.ite ?_ ?_ | refine LeO.bind ?_ (fun _ => ?_)
set_option maxHeartbeats 8000000 in
set_option maxRecDepth 100000 in
theorem impl_Crc.calls (k : Nat) (A0 : Option Addr) (c0 : Nat) (l0 : List Int) (r : Int) (w : World) (hr0 : Kd.C (Kd.int .u8) w A0 l0.length l0) (hc0 : l0.length ≤ c0) (h : impl_Crc.f k l0 = some r) :
  Calls Try.prog 65 #[.slice A0 l0.length c0] w fun e w' => e = .returned (.int .i64 r) ∧ Drawn0 w w' := by
 have HR0 := zm hr0; have HC0 := zm hc0; clear hr0 hc0; have H : (impl_Crc.l0 k 4294967295 l0 (l0.length : Int) 0) = some r := h; clear h
 have H' := zm H
 clear H; go_enter Try.func65, Try.ntmps65
 go_wp2
 go_loopg [3, 9] k (fun kq v3 v9 w' => ∃ (x3_1 : Int) (x9_1 : Int), v3 = .int .i64 x3_1 ∧ v9 = .int .i64 x9_1 ∧ Aside0 (impl_Crc.l0 kq x3_1 l0 (l0.length : Int) x9_1 = some r) ∧ Aside0 (kq ≤ k) ∧ Drawn0 w w')
 case atStart => exact ⟨(4294967295), (0), zF, zF, H', ⟨Nat.le_refl _⟩, zD⟩
 case round =>
  clear H'; obtain ⟨x3_1, x9_1, rfl, rfl, HA, HK1, ⟨m1, rfl⟩⟩ := hrel
  cases gk with
  | zero => exact absurd HA.out (by simp [impl_Crc.l0])
  | succ k1 =>
   have H := HA.out; clear HA; simp only [impl_Crc.l0] at H
   by_cases c2 : x9_1 < (l0.length : Int)
   ·rw [if_pos c2] at H; have c2b0 : decide (x9_1 < (l0.length : Int)) = true := decide_eq_true c2; clear c2
    by_cases c3 : 0 ≤ x9_1
    ·rw [if_pos c3] at H; have c3b0 : decide (0 ≤ x9_1) = true := decide_eq_true c3; clear c3
     by_cases c4 : x9_1 < (l0.length : Int)
     ·rw [if_pos c4] at H; have c4b0 : decide (x9_1 < (l0.length : Int)) = true := decide_eq_true c4; clear c4
      have H' := zm H
      clear H; have p455 : 0 ≤ (x9_1 : Int) := zd; have q455 : x9_1 < (l0.length : Int) := zd; obtain ⟨ad455, e455, hx455_0⟩ := Kd.at_int HR0.out x9_1 p455 q455; cases e455; replace p455 := eq_true p455; replace q455 := eq_true q455
      go_wp2
      go_loopg [3, 17] k1 (fun kq v3 v17 w' => ∃ (x3_2 : Int) (x17_2 : Int), v3 = .int .i64 x3_2 ∧ v17 = .int .i64 x17_2 ∧ Aside0 (impl_Crc.l1 kq x3_2 l0 (l0.length : Int) x9_1 x17_2 = some r) ∧ Aside0 (kq ≤ k1) ∧ Drawn0 w w')
      case atStart => exact ⟨(Go.bits .xor .i64 x3_1 (wrap64 (rd l0 x9_1))), (0), zF, zF, H', ⟨Nat.le_refl _⟩, zD⟩
      case round =>
       clear H'; (try clear c2); (try clear c2b0); (try clear c3); (try clear c3b0); (try clear c4); (try clear c4b0); (try clear hx455_0); (try clear p455); (try clear q455); obtain ⟨x3_2, x17_2, rfl, rfl, HA, HK2, ⟨m2, rfl⟩⟩ := hrel
       cases gk with
       | zero => exact absurd HA.out (by simp [impl_Crc.l1])
       | succ k2 =>
        have H := HA.out; clear HA; simp only [impl_Crc.l1] at H
        by_cases c5 : x17_2 < 8
        ·rw [if_pos c5] at H; have c5b0 : decide (x17_2 < 8) = true := decide_eq_true c5; clear c5
         by_cases c6 : (Int.tmod x3_2 2) = 1
         ·rw [if_pos c6] at H; have c6b0 : ((Int.tmod x3_2 2) == 1) = true := beq_iff_eq.mpr c6; have c6b1 : ((Int.tmod x3_2 2) != 1) = false := bne_eq_false_iff_eq.mpr c6; clear c6
          have H' := zm H
          clear H
          go_wp2
          go_roundg k2
          case measure => have := HK1.out; have := HK2.out; omega
          case rel => exact ⟨(Go.bits .xor .i64 (wrap64 (Int.tdiv x3_2 2)) 3988292384), (wrap64 (x17_2 + 1)), zF, zF, H', ⟨by have := HK1.out; have := HK2.out; omega⟩, zD⟩
         ·rw [if_neg c6] at H; have c6b0 : ((Int.tmod x3_2 2) == 1) = false := beq_eq_false_iff_ne.mpr c6; have c6b1 : ((Int.tmod x3_2 2) != 1) = true := bne_iff_ne.mpr c6
          have H' := zm H
          clear H
          go_wp2
          go_roundg k2
          case measure => have := HK1.out; have := HK2.out; omega
          case rel => exact ⟨(wrap64 (Int.tdiv x3_2 2)), (wrap64 (x17_2 + 1)), zF, zF, H', ⟨by have := HK1.out; have := HK2.out; omega⟩, zD⟩
        ·rw [if_neg c5] at H; have c5b0 : decide (x17_2 < 8) = false := decide_eq_false c5; clear c5
         have H' := zm H
         clear H
         go_wp2
         go_roundg k2
         case measure => have := HK1.out; have := HK2.out; omega
         case rel => exact ⟨(x3_2), (wrap64 (x9_1 + 1)), zF, zF, H', ⟨by have := HK1.out; have := HK2.out; omega⟩, zD⟩
     ·rw [if_neg c4] at H
      exact absurd H (by simp)
    ·rw [if_neg c3] at H
     exact absurd H (by simp)
   ·rw [if_neg c2] at H; have c2b0 : decide (x9_1 < (l0.length : Int)) = false := decide_eq_false c2; clear c2; obtain rfl := Option.some.inj H
    go_wp2
    go_ret
    exact ⟨zF, zD⟩

/-! ### impl_LeafOf: function 82 -/
def impl_LeafOf.f (k : Nat) (a0 : Int) : Option (Int) := (impl_isNode.f a0).bind fun t456 => (if t456 = true then ((impl_PutNum.f k a0).bind fun t457 => ((impl_Crc.f k t457).bind fun t460 => (some (Int.tmod t460 4)))) else (some (-1)))
theorem impl_LeafOf.mono : ∀ a0 k, LeO (impl_LeafOf.f k a0) (impl_LeafOf.f (k + 1) a0) := by
 intro a0 k
 unfold impl_LeafOf.f
 repeat' first | (with_reducible first | exact LeO.refl _ | exact LeO.none _ | refine LeO.ite ?_ ?_ | refine LeO.bind ?_ (fun _ => ?_) | apply impl_Crc.mono | apply impl_PutNum.mono) | apply impl_Crc.mono | apply impl_PutNum.mono | exact LeO.none _ | refine LeO.ite ?_ ?_ | refine LeO.bind ?_ (fun _ => ?_)
set_option maxHeartbeats 8000000 in
set_option maxRecDepth 100000 in
theorem impl_LeafOf.calls (k : Nat) (a0 : Int) (r : Int) (w : World) (h : impl_LeafOf.f k a0 = some r) :
  Calls Try.prog 82 #[.int .i64 a0] w fun e w' => e = .returned (.int .i64 r) ∧ Below w.heap.size w w' := by
 have HB := zm (Below.refl w.heap.size w); have H : ((impl_isNode.f a0).bind fun t456 => (if t456 = true then ((impl_PutNum.f k a0).bind fun t457 => ((impl_Crc.f k t457).bind fun t460 => (some (Int.tmod t460 4)))) else (some (-1)))) = some r := h; clear h; replace H := Option.bind_eq_some_iff.mp H; obtain ⟨t456, A20, H⟩ := H; (try dsimp only at H); have A2 := zm A20; clear A20
 by_cases c3 : t456 = true
 ·subst c3; rw [if_pos rfl] at H; replace H := Option.bind_eq_some_iff.mp H; obtain ⟨t457, A40, H⟩ := H; (try dsimp only at H); have A4 := zm A40; clear A40; replace H := Option.bind_eq_some_iff.mp H; obtain ⟨t460, A50, H⟩ := H; (try dsimp only at H); have A5 := zm A50; clear A50; obtain rfl := Option.some.inj H; go_enter Try.func82, Try.ntmps82
  go_wp2_with (first | (refine zg (some 4) #[.int .i64 a0] Try.func94 ?_; (with_reducible refine (impl_isNode.calls a0 true _ A2.out).mono ?_); rintro e w' ⟨rfl, ⟨nd, rfl⟩⟩; refine ⟨_, rfl, ?_⟩) | (refine zg (some 7) #[.int .i64 a0] Try.func54 ?_; (with_reducible refine (impl_PutNum.calls k a0 t457 _ A4.out).mono ?_); rintro e w6 ⟨v458, rfl, ho0, hb⟩; refine ⟨_, rfl, ?_⟩; have HO459 := zm (Kd.R_lower ho0 (below_size zB)); replace HB := zm (below_step zB hb); clear hb ho0; obtain ⟨Ao7, co7, eo7⟩ := Kd.R_slice HO459.out; subst eo7) | (refine zg (some 8) #[.slice Ao7 t457.length co7] Try.func65 ?_; (with_reducible refine (impl_Crc.calls k _ _ t457 t460 _ ?side1 ?side2 A5.out).mono ?_); (case side1 => repeat (first | exact (Kd.R_reads' HO459.out).2.2 | (with_reducible refine Kd.C_alloc ?_ _) | (with_reducible refine Kd.C_drewN ?_ _) | (with_reducible refine Kd.C_drew ?_))); (case side2 => exact (Kd.R_reads' HO459.out).2.1); rintro e w' ⟨rfl, ⟨nd, rfl⟩⟩; refine ⟨_, rfl, ?_⟩))
  go_ret
  exact ⟨zE, zB⟩
 ·replace c3 := Bool.eq_false_iff.mpr c3; subst c3; rw [zff] at H; obtain rfl := Option.some.inj H; go_enter Try.func82, Try.ntmps82
  go_wp2_with (first | (refine zg (some 4) #[.int .i64 a0] Try.func94 ?_; (with_reducible refine (impl_isNode.calls a0 false _ A2.out).mono ?_); rintro e w' ⟨rfl, ⟨nd, rfl⟩⟩; refine ⟨_, rfl, ?_⟩))
  go_ret
  exact ⟨zE, zB⟩

end Go.Proofs.Ytgapdegniepjiaa.P
