-- by a program of this session, for this seat
import Derived.Test.YtgapdegniepjiaaZ
import Derived.Test.YtgapdegniepjiaaP0
import Derived.Test.YtgapdegniepjiaaPad
namespace Go.Proofs.Ytgapdegniepjiaa.P
open Go.RowKit Go.Proofs.YtgapdegniepjiaaW.PrintWords Go.Proofs.YtgapdegniepjiaaW.PrintLast Go.Proofs.YtgapdegniepjiaaW.PrintMore Go.Proofs.Ytgapdegniepjiaa.Z
attribute [local go_sem] max2_int min2_int max_two min_two max_three min_three max_four min_four   -- for this text's walks alone
set_option linter.unusedVariables false
set_option linter.unusedSimpArgs false

/-! ### spec_l1Has: function 99 -/
def spec_l1Has.l0 : Nat → List Int → Int → Int → Option (Bool)
 | 0, _, _, _ => none
 | k + 1, x0, x1, x5 => if x5 < (x0.length : Int) then (if 0 ≤ x5 then (if (rd x0 x5) = x1 then (some true) else (spec_l1Has.l0 k x0 x1 (wrap64 (x5 + 1)))) else (none)) else (some false)
def spec_l1Has.f (k : Nat) (l0 : List Int) (a1 : Int) : Option (Bool) := spec_l1Has.l0 k l0 a1 0
theorem spec_l1Has.mono_l : ∀ k, (∀ y0 y1 y2, LeO (spec_l1Has.l0 k y0 y1 y2) (spec_l1Has.l0 (k + 1) y0 y1 y2))
 | 0 => fun _ _ _ r h => by simp [spec_l1Has.l0] at h
 | k + 1 => by
  have ih0 := spec_l1Has.mono_l k
  ·intro y0 y1 y2
   unfold spec_l1Has.l0
   repeat' first
   | (with_reducible exact ih0 _ _ _)
   | (with_reducible exact LeO.refl _)
   | (with_reducible exact LeO.none _)
   | (with_reducible refine LeO.ite ?_ ?_)
   | (with_reducible refine LeO.bind ?_ (fun _ => ?_))
   | exact ih0 _ _ _
   | exact LeO.none _
   | refine LeO.ite ?_ ?_
   | refine LeO.bind ?_ (fun _ => ?_)
theorem spec_l1Has.mono : ∀ a0 a1 k, LeO (spec_l1Has.f k a0 a1) (spec_l1Has.f (k + 1) a0 a1) := by
 intro a0 a1 k
 have ih0 := spec_l1Has.mono_l k
 unfold spec_l1Has.f
 repeat' first
   | (with_reducible exact ih0 _ _ _)
   | (with_reducible exact LeO.refl _)
   | (with_reducible exact LeO.none _)
   | (with_reducible refine LeO.ite ?_ ?_)
   | (with_reducible refine LeO.bind ?_ (fun _ => ?_))
   | exact ih0 _ _ _
   | exact LeO.none _
   | refine LeO.ite ?_ ?_
   | refine LeO.bind ?_ (fun _ => ?_)
set_option maxHeartbeats 8000000 in
set_option maxRecDepth 100000 in
theorem spec_l1Has.calls (k : Nat) (A0 : Option Addr) (c0 : Nat) (l0 : List Int) (a1 : Int) (r : Bool) (w : World) (hr0 : Kd.C (Kd.int .i64) w A0 l0.length l0) (hc0 : l0.length ≤ c0) (h : spec_l1Has.f k l0 a1 = some r) :
  Calls Try.prog 99 #[.slice A0 l0.length c0, .int .i64 a1] w fun e w' => e = .returned (.bool r) ∧ Drawn0 w w' := by
 have HR0 := zm hr0
 have HC0 := zm hc0
 clear hr0 hc0
 have H : (spec_l1Has.l0 k l0 a1 0) = some r := h
 clear h
 have H' := zm H
 clear H
 go_enter Try.func99, Try.ntmps99
 go_wp2
 go_loopg [5] k (fun kq v5 w' => ∃ (x5_1 : Int), v5 = .int .i64 x5_1 ∧ Aside0 (spec_l1Has.l0 kq l0 a1 x5_1 = some r) ∧ Aside0 (kq ≤ k) ∧ Drawn0 w w')
 case atStart => exact ⟨(0), zF, H', ⟨Nat.le_refl _⟩, zD⟩
 case round =>
  clear H'
  try clear p2
  obtain ⟨x5_1, rfl, HA, HK1, ⟨m1, rfl⟩⟩ := hrel
  cases gk with
  | zero => exact absurd HA.out (by simp [spec_l1Has.l0])
  | succ k1 =>
   have H := HA.out
   clear HA
   simp only [spec_l1Has.l0] at H
   by_cases c3 : x5_1 < (l0.length : Int)
   ·rw [if_pos c3] at H
    have c3b0 : decide (x5_1 < (l0.length : Int)) = true := decide_eq_true c3
    clear c3
    by_cases c4 : 0 ≤ x5_1
    ·rw [if_pos c4] at H
     have c4b0 : decide (0 ≤ x5_1) = true := decide_eq_true c4
     clear c4
     by_cases c5 : (rd l0 x5_1) = a1
     ·rw [if_pos c5] at H
      have c5b0 : ((rd l0 x5_1) == a1) = true := beq_iff_eq.mpr c5
      have c5b1 : ((rd l0 x5_1) != a1) = false := bne_eq_false_iff_eq.mpr c5
      clear c5
      obtain rfl := Option.some.inj H
      have p612 : 0 ≤ (x5_1 : Int) := zd
      have q612 : x5_1 < (l0.length : Int) := zd
      obtain ⟨ad612, e612, hx612_0⟩ := Kd.at_int HR0.out x5_1 p612 q612
      cases e612
      replace p612 := eq_true p612
      replace q612 := eq_true q612
      go_wp2
      go_ret
      exact ⟨zF, zD⟩
     ·rw [if_neg c5] at H
      have c5b0 : ((rd l0 x5_1) == a1) = false := beq_eq_false_iff_ne.mpr c5
      have c5b1 : ((rd l0 x5_1) != a1) = true := bne_iff_ne.mpr c5
      have H' := zm H
      clear H
      have p612 : 0 ≤ (x5_1 : Int) := zd
      have q612 : x5_1 < (l0.length : Int) := zd
      obtain ⟨ad612, e612, hx612_0⟩ := Kd.at_int HR0.out x5_1 p612 q612
      cases e612
      replace p612 := eq_true p612
      replace q612 := eq_true q612
      go_wp2
      go_roundg k1
      case measure => have := HK1.out; omega
      case rel => exact ⟨(wrap64 (x5_1 + 1)), zF, H', ⟨by have := HK1.out; omega⟩, zD⟩
    ·rw [if_neg c4] at H
     exact absurd H (by simp)
   ·rw [if_neg c3] at H
    have c3b0 : decide (x5_1 < (l0.length : Int)) = false := decide_eq_false c3
    clear c3
    obtain rfl := Option.some.inj H
    go_wp2
    go_ret
    exact ⟨zF, zD⟩

/-! ### spec_Crc: function 62 -/
mutual
def spec_Crc.l0 : Nat → List Int → Int → Int → Option (Int)
 | 0, _, _, _ => none
 | k + 1, x0, x3, x4 => if x4 < (x0.length : Int) then (if 0 ≤ x4 then (spec_Crc.l1 k x0 (Go.bits .xor .i64 x3 (wrap64 (rd x0 x4))) x4 0) else (none)) else (some (Go.bits .xor .i64 x3 4294967295))
def spec_Crc.l1 : Nat → List Int → Int → Int → Int → Option (Int)
 | 0, _, _, _, _ => none
 | k + 1, x0, x3, x4, x5 => if x5 < 8 then (if (Int.tmod x3 2) = 1 then (spec_Crc.l1 k x0 (Go.bits .xor .i64 (wrap64 (Int.tdiv x3 2)) 3988292384) x4 (wrap64 (x5 + 1))) else (spec_Crc.l1 k x0 (wrap64 (Int.tdiv x3 2)) x4 (wrap64 (x5 + 1)))) else (spec_Crc.l0 k x0 x3 (wrap64 (x4 + 1)))
end
def spec_Crc.f (k : Nat) (l0 : List Int) : Option (Int) := spec_Crc.l0 k l0 4294967295 0
theorem spec_Crc.mono_l : ∀ k, (∀ y0 y1 y2, LeO (spec_Crc.l0 k y0 y1 y2) (spec_Crc.l0 (k + 1) y0 y1 y2)) ∧ (∀ y0 y1 y2 y3, LeO (spec_Crc.l1 k y0 y1 y2 y3) (spec_Crc.l1 (k + 1) y0 y1 y2 y3))
 | 0 => ⟨fun _ _ _ r h => by simp [spec_Crc.l0] at h, fun _ _ _ _ r h => by simp [spec_Crc.l1] at h⟩
 | k + 1 => by
  obtain ⟨ih0, ih1⟩ := spec_Crc.mono_l k
  refine ⟨?_, ?_⟩
  ·intro y0 y1 y2
   unfold spec_Crc.l0
   repeat' first
   | (with_reducible exact ih0 _ _ _)
   | (with_reducible exact ih1 _ _ _ _)
   | (with_reducible exact LeO.refl _)
   | (with_reducible exact LeO.none _)
   | (with_reducible refine LeO.ite ?_ ?_)
   | (with_reducible refine LeO.bind ?_ (fun _ => ?_))
   | exact ih0 _ _ _
   | exact ih1 _ _ _ _
   | exact LeO.none _
   | refine LeO.ite ?_ ?_
   | refine LeO.bind ?_ (fun _ => ?_)
  ·intro y0 y1 y2 y3
   unfold spec_Crc.l1
   repeat' first
   | (with_reducible exact ih0 _ _ _)
   | (with_reducible exact ih1 _ _ _ _)
   | (with_reducible exact LeO.refl _)
   | (with_reducible exact LeO.none _)
   | (with_reducible refine LeO.ite ?_ ?_)
   | (with_reducible refine LeO.bind ?_ (fun _ => ?_))
   | exact ih0 _ _ _
   | exact ih1 _ _ _ _
   | exact LeO.none _
   | refine LeO.ite ?_ ?_
   | refine LeO.bind ?_ (fun _ => ?_)
theorem spec_Crc.mono : ∀ a0 k, LeO (spec_Crc.f k a0) (spec_Crc.f (k + 1) a0) := by
 intro a0 k
 obtain ⟨ih0, ih1⟩ := spec_Crc.mono_l k
 unfold spec_Crc.f
 repeat' first
   | (with_reducible exact ih0 _ _ _)
   | (with_reducible exact ih1 _ _ _ _)
   | (with_reducible exact LeO.refl _)
   | (with_reducible exact LeO.none _)
   | (with_reducible refine LeO.ite ?_ ?_)
   | (with_reducible refine LeO.bind ?_ (fun _ => ?_))
   | exact ih0 _ _ _
   | exact ih1 _ _ _ _
   | exact LeO.none _
   | refine LeO.ite ?_ ?_
   | refine LeO.bind ?_ (fun _ => ?_)
set_option maxHeartbeats 8000000 in
set_option maxRecDepth 100000 in
theorem spec_Crc.calls (k : Nat) (A0 : Option Addr) (c0 : Nat) (l0 : List Int) (r : Int) (w : World) (hr0 : Kd.C (Kd.int .u8) w A0 l0.length l0) (hc0 : l0.length ≤ c0) (h : spec_Crc.f k l0 = some r) :
  Calls Try.prog 62 #[.slice A0 l0.length c0] w fun e w' => e = .returned (.int .i64 r) ∧ Drawn0 w w' := by
 have HR0 := zm hr0
 have HC0 := zm hc0
 clear hr0 hc0
 have H : (spec_Crc.l0 k l0 4294967295 0) = some r := h
 clear h
 have H' := zm H
 clear H
 go_enter Try.func62, Try.ntmps62
 go_wp2
 go_loopg [3, 4] k (fun kq v3 v4 w' => ∃ (x3_1 : Int) (x4_1 : Int), v3 = .int .i64 x3_1 ∧ v4 = .int .i64 x4_1 ∧ Aside0 (spec_Crc.l0 kq l0 x3_1 x4_1 = some r) ∧ Aside0 (kq ≤ k) ∧ Drawn0 w w')
 case atStart => exact ⟨(4294967295), (0), zF, zF, H', ⟨Nat.le_refl _⟩, zD⟩
 case round =>
  clear H'
  obtain ⟨x3_1, x4_1, rfl, rfl, HA, HK1, ⟨m1, rfl⟩⟩ := hrel
  cases gk with
  | zero => exact absurd HA.out (by simp [spec_Crc.l0])
  | succ k1 =>
   have H := HA.out
   clear HA
   simp only [spec_Crc.l0] at H
   by_cases c2 : x4_1 < (l0.length : Int)
   ·rw [if_pos c2] at H
    have c2b0 : decide (x4_1 < (l0.length : Int)) = true := decide_eq_true c2
    clear c2
    by_cases c3 : 0 ≤ x4_1
    ·rw [if_pos c3] at H
     have c3b0 : decide (0 ≤ x4_1) = true := decide_eq_true c3
     clear c3
     have H' := zm H
     clear H
     have p613 : 0 ≤ (x4_1 : Int) := zd
     have q613 : x4_1 < (l0.length : Int) := zd
     obtain ⟨ad613, e613, hx613_0⟩ := Kd.at_int HR0.out x4_1 p613 q613
     cases e613
     replace p613 := eq_true p613
     replace q613 := eq_true q613
     go_wp2
     go_loopg [3, 5] k1 (fun kq v3 v5 w' => ∃ (x3_2 : Int) (x5_2 : Int), v3 = .int .i64 x3_2 ∧ v5 = .int .i64 x5_2 ∧ Aside0 (spec_Crc.l1 kq l0 x3_2 x4_1 x5_2 = some r) ∧ Aside0 (kq ≤ k1) ∧ Drawn0 w w')
     case atStart => exact ⟨(Go.bits .xor .i64 x3_1 (wrap64 (rd l0 x4_1))), (0), zF, zF, H', ⟨Nat.le_refl _⟩, zD⟩
     case round =>
      clear H'
      try clear c2
      try clear c2b0
      try clear p2
      try clear c3
      try clear c3b0
      try clear hx613_0
      try clear p613
      try clear q613
      obtain ⟨x3_2, x5_2, rfl, rfl, HA, HK2, ⟨m2, rfl⟩⟩ := hrel
      cases gk with
      | zero => exact absurd HA.out (by simp [spec_Crc.l1])
      | succ k2 =>
       have H := HA.out
       clear HA
       simp only [spec_Crc.l1] at H
       by_cases c4 : x5_2 < 8
       ·rw [if_pos c4] at H
        have c4b0 : decide (x5_2 < 8) = true := decide_eq_true c4
        clear c4
        by_cases c5 : (Int.tmod x3_2 2) = 1
        ·rw [if_pos c5] at H
         have c5b0 : ((Int.tmod x3_2 2) == 1) = true := beq_iff_eq.mpr c5
         have c5b1 : ((Int.tmod x3_2 2) != 1) = false := bne_eq_false_iff_eq.mpr c5
         clear c5
         have H' := zm H
         clear H
         go_wp2
         go_roundg k2
         case measure => have := HK1.out; have := HK2.out; omega
         case rel => exact ⟨(Go.bits .xor .i64 (wrap64 (Int.tdiv x3_2 2)) 3988292384), (wrap64 (x5_2 + 1)), zF, zF, H', ⟨by have := HK1.out; have := HK2.out; omega⟩, zD⟩
        ·rw [if_neg c5] at H
         have c5b0 : ((Int.tmod x3_2 2) == 1) = false := beq_eq_false_iff_ne.mpr c5
         have c5b1 : ((Int.tmod x3_2 2) != 1) = true := bne_iff_ne.mpr c5
         have H' := zm H
         clear H
         go_wp2
         go_roundg k2
         case measure => have := HK1.out; have := HK2.out; omega
         case rel => exact ⟨(wrap64 (Int.tdiv x3_2 2)), (wrap64 (x5_2 + 1)), zF, zF, H', ⟨by have := HK1.out; have := HK2.out; omega⟩, zD⟩
       ·rw [if_neg c4] at H
        have c4b0 : decide (x5_2 < 8) = false := decide_eq_false c4
        clear c4
        have H' := zm H
        clear H
        go_wp2
        go_roundg k2
        case measure => have := HK1.out; have := HK2.out; omega
        case rel => exact ⟨(x3_2), (wrap64 (x4_1 + 1)), zF, zF, H', ⟨by have := HK1.out; have := HK2.out; omega⟩, zD⟩
    ·rw [if_neg c3] at H
     exact absurd H (by simp)
   ·rw [if_neg c2] at H
    have c2b0 : decide (x4_1 < (l0.length : Int)) = false := decide_eq_false c2
    clear c2
    obtain rfl := Option.some.inj H
    go_wp2
    go_ret
    exact ⟨zF, zD⟩

/-! ### spec_PutNum: function 90 -/
def spec_PutNum.l0 : Nat → Int → List Int → Option (List Int)
 | 0, _, _ => none
 | k + 1, x0, x3 => if x0 > 127 then (if x3.length < 140737488355328 then (spec_PutNum.l0 k (wrap64 (Int.tdiv x0 128)) (x3 ++ [(wrap64 ((Int.tmod x0 128) + 128)) % 256])) else (none)) else (if x3.length < 140737488355328 then (some (x3 ++ [(x0) % 256])) else (none))
def spec_PutNum.f (k : Nat) (a0 : Int) : Option (List Int) := (some (([] : List Int) : List Int)).bind fun y614 => ((spec_l1In.f a0 0 2147483647).bind fun t617 => (if t617 = true then (spec_PutNum.l0 k a0 y614) else (some y614)))
theorem spec_PutNum.mono_l : ∀ k, (∀ y0 y1, LeO (spec_PutNum.l0 k y0 y1) (spec_PutNum.l0 (k + 1) y0 y1))
 | 0 => fun _ _ r h => by simp [spec_PutNum.l0] at h
 | k + 1 => by
  have ih0 := spec_PutNum.mono_l k
  ·intro y0 y1
   unfold spec_PutNum.l0
   repeat' first
   | (with_reducible exact ih0 _ _)
   | (with_reducible exact LeO.refl _)
   | (with_reducible exact LeO.none _)
   | (with_reducible refine LeO.ite ?_ ?_)
   | (with_reducible refine LeO.bind ?_ (fun _ => ?_))
   | exact ih0 _ _
   | exact LeO.none _
   | refine LeO.ite ?_ ?_
   | refine LeO.bind ?_ (fun _ => ?_)
theorem spec_PutNum.mono : ∀ a0 k, LeO (spec_PutNum.f k a0) (spec_PutNum.f (k + 1) a0) := by
 intro a0 k
 have ih0 := spec_PutNum.mono_l k
 unfold spec_PutNum.f
 repeat' first
   | (with_reducible exact ih0 _ _)
   | (with_reducible exact LeO.refl _)
   | (with_reducible exact LeO.none _)
   | (with_reducible refine LeO.ite ?_ ?_)
   | (with_reducible refine LeO.bind ?_ (fun _ => ?_))
   | exact ih0 _ _
   | exact LeO.none _
   | refine LeO.ite ?_ ?_
   | refine LeO.bind ?_ (fun _ => ?_)
set_option maxHeartbeats 8000000 in
set_option maxRecDepth 100000 in
theorem spec_PutNum.calls (k : Nat) (a0 : Int) (r : List Int) (w : World) (h : spec_PutNum.f k a0 = some r) :
  Calls Try.prog 90 #[.int .i64 a0] w fun e w' => ∃ v0_ : Value, e = .returned (v0_) ∧ Kd.R (Kd.int .u8) 5 w' w.heap.size (fun _ => True) v0_ r ∧ Below w.heap.size w w' := by
 have HB := zm (Below.refl w.heap.size w)
 have H : ((some (([] : List Int) : List Int)).bind fun y614 => ((spec_l1In.f a0 0 2147483647).bind fun t617 => (if t617 = true then (spec_PutNum.l0 k a0 y614) else (some y614)))) = some r := h
 clear h
 obtain ⟨y614, hy614⟩ : ∃ y_ : List Int, y_ = (([] : List Int)) := ⟨_, rfl⟩
 replace H : ((spec_l1In.f a0 0 2147483647).bind fun t617 => (if t617 = true then (spec_PutNum.l0 k a0 y614) else (some y614))) = some r := by first | (rw [hy614]; with_reducible exact H) | (have H2_ := (Option.bind_some _ _).symm.trans H; rw [hy614]; with_reducible exact H2_) | (have H2_ := (Option.bind_some _ _).symm.trans H; with_reducible exact H2_) | with_reducible exact H | (rw [hy614]; exact H) | exact H
 have Ny614 := zm hy614
 clear hy614
 replace H := Option.bind_eq_some_iff.mp H
 obtain ⟨t617, A20, H⟩ := H
 replace H : (if t617 = true then (spec_PutNum.l0 k a0 y614) else (some y614)) = some r := H
 have A2 := zm A20
 clear A20
 by_cases c3 : t617 = true
 ·subst c3
  have H1 : (spec_PutNum.l0 k a0 y614) = some r := by rw [if_pos rfl] at H; exact H
  clear H
  have H := H1
  clear H1
  have H' := zm H
  clear H
  go_enter Try.func90, Try.ntmps90
  go_wp2_with (first | ((with_reducible refine gate_dst (N := 4) rfl ?_); refine Kd.R_lit (Kd.int .u8) _ 5 ?hg (N := 4) ?hd (xs := ([] : List Int)) (inner := []) (ok := fun _ => True) (okp := fun _ => True) ?hr ?hp (fun _ hk => hk) trivial (Below.refl _ _) (Nat.le_refl _) (by simp) ?_; (case hd => rfl); (case hg => rfl); (case hr => first | (go_simp; done) | (go_simp; rfl)); (case hp => exact (Reps.none _ _)); intro v615 w4 ho5 hb hg_ hnew_; clear hg_ hnew_; (first | rw [← Ny614.out] at ho5 | (simp only [Int.reduceToNat] at ho5; rw [← Ny614.out] at ho5)); have HO616 := zm (Kd.R_lower ho5 (below_size zB)); replace HB := zm (below_step zB hb); clear hb ho5) | ((with_reducible refine gate_callee (f := 61) rfl ?_); refine zg (some 6) #[.int .i64 a0, .int .i64 0, .int .i64 2147483647] Try.func61 ?_; (with_reducible refine (spec_l1In.calls a0 0 2147483647 true _ A2.out).mono ?_); rintro e w' ⟨rfl, ⟨nd, rfl⟩⟩; refine ⟨_, rfl, ?_⟩))
  go_loopg [0, 3] k (fun kq v0 v3 w' => ∃ (x0_1 : Int) (x3_1 : List Int), v0 = .int .i64 x0_1 ∧ Aside0 (spec_PutNum.l0 kq x0_1 x3_1 = some r) ∧ Aside0 (kq ≤ k) ∧ Aside0 (Kd.R (Kd.int .u8) 5 w' w.heap.size (fun _ => True) v3 x3_1) ∧ Aside0 (Below w.heap.size w w'))
  case atStart => exact ⟨(a0), (y614), zF, H', ⟨Nat.le_refl _⟩, ⟨zr HO616⟩, ⟨zB⟩⟩
  case round =>
   clear H'
   try clear p2
   try clear c3
   obtain ⟨x0_1, x3_1, rfl, HA, HK1, HO_3, HB⟩ := hrel
   cases gk with
   | zero => exact absurd HA.out (by simp [spec_PutNum.l0])
   | succ k1 =>
    have H := HA.out
    clear HA
    simp only [spec_PutNum.l0] at H
    by_cases c6 : x0_1 > 127
    ·rw [if_pos c6] at H
     have c6b0 : decide (127 < x0_1) = true := decide_eq_true c6
     clear c6
     by_cases c7 : x3_1.length < 140737488355328
     ·rw [if_pos c7] at H
      have LMc7 := zm c7
      clear c7
      obtain ⟨y618, hy618⟩ : ∃ y_ : List Int, y_ = (x3_1 ++ [(wrap64 ((Int.tmod x0_1 128) + 128)) % 256]) := ⟨_, rfl⟩
      replace H : (spec_PutNum.l0 k1 (wrap64 (Int.tdiv x0_1 128)) y618) = some r := by first | (rw [hy618]; with_reducible exact H) | (have H2_ := (Option.bind_some _ _).symm.trans H; rw [hy618]; with_reducible exact H2_) | (have H2_ := (Option.bind_some _ _).symm.trans H; with_reducible exact H2_) | with_reducible exact H | (rw [hy618]; exact H) | exact H
      have Ny618 := zm hy618
      clear hy618
      have H' := zm H
      clear H
      go_wp2_with (first | ((with_reducible refine gate_builtin (b := .append) (xs := #[.tmp 11, .tmp 16]) rfl ?_); at_builtin; refine Kd.R_append (Kd.int .u8) (w0 := w) w.heap.size rfl (.tmp 11) (.tmp 16) 27 5 (.int .u8 0) 1 rfl Try.underlying27 info5 rfl (by decide) (by omega) u3 x3_1 ((wrap64 ((Int.tmod x0_1 128) + 128)) % 256) [.int .u8 ((wrap64 ((Int.tmod x0_1 128) + 128)) % 256)] (fun _ => True) (fun _ => False) rfl rfl ?aP (fun _ hk => hk.elim) ?aF ?aO ?aB ?aS ?aL ?_; (case aP => exact rfl); (case aB => exact zB); (case aF => exact (fun _ _ => trivial)); (case aO => exact (zr HO_3)); (case aS => exact (below_size zB)); (case aL => have := LMc7.out; omega); intro v619 w8 ho hb hg hat; rw [← Ny618.out] at ho; replace HB := zm (hb); have HO620 := zm (ho); clear HO_3; clear ho hb hg hat))
      go_roundg k1
      case measure => have := HK1.out; omega
      case rel => exact ⟨(wrap64 (Int.tdiv x0_1 128)), (y618), zF, H', ⟨by have := HK1.out; omega⟩, ⟨zr HO620⟩, ⟨zB⟩⟩
     ·rw [if_neg c7] at H
      exact absurd H (by simp)
    ·rw [if_neg c6] at H
     have c6b0 : decide (127 < x0_1) = false := decide_eq_false c6
     clear c6
     by_cases c9 : x3_1.length < 140737488355328
     ·rw [if_pos c9] at H
      have LMc9 := zm c9
      clear c9
      obtain ⟨y621, hy621⟩ : ∃ y_ : List Int, y_ = (x3_1 ++ [(x0_1) % 256]) := ⟨_, rfl⟩
      replace H : (some y621) = some r := by first | (rw [hy621]; with_reducible exact H) | (have H2_ := (Option.bind_some _ _).symm.trans H; rw [hy621]; with_reducible exact H2_) | (have H2_ := (Option.bind_some _ _).symm.trans H; with_reducible exact H2_) | with_reducible exact H | (rw [hy621]; exact H) | exact H
      have Ny621 := zm hy621
      clear hy621
      obtain rfl := Option.some.inj H
      go_wp2_with (first | ((with_reducible refine gate_builtin (b := .append) (xs := #[.tmp 20, .tmp 23]) rfl ?_); at_builtin; refine Kd.R_append (Kd.int .u8) (w0 := w) w.heap.size rfl (.tmp 20) (.tmp 23) 27 5 (.int .u8 0) 1 rfl Try.underlying27 info5 rfl (by decide) (by omega) u3 x3_1 ((x0_1) % 256) [.int .u8 ((x0_1) % 256)] (fun _ => True) (fun _ => False) rfl rfl ?aP (fun _ hk => hk.elim) ?aF ?aO ?aB ?aS ?aL ?_; (case aP => exact rfl); (case aB => exact zB); (case aF => exact (fun _ _ => trivial)); (case aO => exact (zr HO_3)); (case aS => exact (below_size zB)); (case aL => have := LMc9.out; omega); intro v622 w10 ho hb hg hat; rw [← Ny621.out] at ho; replace HB := zm (hb); have HO623 := zm (ho); clear HO_3; clear ho hb hg hat))
      go_ret
      exact ⟨_, zE, zr HO623, zB⟩
     ·rw [if_neg c9] at H
      exact absurd H (by simp)
 ·replace c3 := Bool.eq_false_iff.mpr c3
  subst c3
  have H1 : (some y614) = some r := by rw [if_neg (show ¬ (false = true) by decide)] at H; exact H
  clear H
  have H := H1
  clear H1
  obtain rfl := Option.some.inj H
  go_enter Try.func90, Try.ntmps90
  go_wp2_with (first | ((with_reducible refine gate_dst (N := 4) rfl ?_); refine Kd.R_lit (Kd.int .u8) _ 5 ?hg (N := 4) ?hd (xs := ([] : List Int)) (inner := []) (ok := fun _ => True) (okp := fun _ => True) ?hr ?hp (fun _ hk => hk) trivial (Below.refl _ _) (Nat.le_refl _) (by simp) ?_; (case hd => rfl); (case hg => rfl); (case hr => first | (go_simp; done) | (go_simp; rfl)); (case hp => exact (Reps.none _ _)); intro v615 w11 ho12 hb hg_ hnew_; clear hg_ hnew_; (first | rw [← Ny614.out] at ho12 | (simp only [Int.reduceToNat] at ho12; rw [← Ny614.out] at ho12)); have HO616 := zm (Kd.R_lower ho12 (below_size zB)); replace HB := zm (below_step zB hb); clear hb ho12) | ((with_reducible refine gate_callee (f := 61) rfl ?_); refine zg (some 6) #[.int .i64 a0, .int .i64 0, .int .i64 2147483647] Try.func61 ?_; (with_reducible refine (spec_l1In.calls a0 0 2147483647 false _ A2.out).mono ?_); rintro e w' ⟨rfl, ⟨nd, rfl⟩⟩; refine ⟨_, rfl, ?_⟩))
  go_ret
  exact ⟨_, zE, zr HO616, zB⟩

/-! ### spec_LeafOf: function 100 -/
def spec_LeafOf.f (k : Nat) (a0 : Int) : Option (Int) := (spec_l3Node.f a0).bind fun t624 => (if t624 = true then ((spec_PutNum.f k a0).bind fun t625 => ((spec_Crc.f k t625).bind fun t628 => (some (Int.tmod t628 4)))) else (some (-1)))
theorem spec_LeafOf.mono : ∀ a0 k, LeO (spec_LeafOf.f k a0) (spec_LeafOf.f (k + 1) a0) := by
 intro a0 k
 unfold spec_LeafOf.f
 repeat' first
   | (with_reducible exact spec_Crc.mono _ _)
   | (with_reducible exact spec_PutNum.mono _ _)
   | (with_reducible exact LeO.refl _)
   | (with_reducible exact LeO.none _)
   | (with_reducible refine LeO.ite ?_ ?_)
   | (with_reducible refine LeO.bind ?_ (fun _ => ?_))
   | exact spec_Crc.mono _ _
   | exact spec_PutNum.mono _ _
   | exact LeO.none _
   | refine LeO.ite ?_ ?_
   | refine LeO.bind ?_ (fun _ => ?_)
set_option maxHeartbeats 8000000 in
set_option maxRecDepth 100000 in
theorem spec_LeafOf.calls (k : Nat) (a0 : Int) (r : Int) (w : World) (h : spec_LeafOf.f k a0 = some r) :
  Calls Try.prog 100 #[.int .i64 a0] w fun e w' => e = .returned (.int .i64 r) ∧ Below w.heap.size w w' := by
 have HB := zm (Below.refl w.heap.size w)
 have H : ((spec_l3Node.f a0).bind fun t624 => (if t624 = true then ((spec_PutNum.f k a0).bind fun t625 => ((spec_Crc.f k t625).bind fun t628 => (some (Int.tmod t628 4)))) else (some (-1)))) = some r := h
 clear h
 replace H := Option.bind_eq_some_iff.mp H
 obtain ⟨t624, A20, H⟩ := H
 replace H : (if t624 = true then ((spec_PutNum.f k a0).bind fun t625 => ((spec_Crc.f k t625).bind fun t628 => (some (Int.tmod t628 4)))) else (some (-1))) = some r := H
 have A2 := zm A20
 clear A20
 by_cases c3 : t624 = true
 ·subst c3
  have H1 : ((spec_PutNum.f k a0).bind fun t625 => ((spec_Crc.f k t625).bind fun t628 => (some (Int.tmod t628 4)))) = some r := by rw [if_pos rfl] at H; exact H
  clear H
  have H := H1
  clear H1
  replace H := Option.bind_eq_some_iff.mp H
  obtain ⟨t625, A40, H⟩ := H
  replace H : ((spec_Crc.f k t625).bind fun t628 => (some (Int.tmod t628 4))) = some r := H
  have A4 := zm A40
  clear A40
  replace H := Option.bind_eq_some_iff.mp H
  obtain ⟨t628, A50, H⟩ := H
  replace H : (some (Int.tmod t628 4)) = some r := H
  have A5 := zm A50
  clear A50
  obtain rfl := Option.some.inj H
  go_enter Try.func100, Try.ntmps100
  go_wp2_with (first | ((with_reducible refine gate_callee (f := 72) rfl ?_); refine zg (some 4) #[.int .i64 a0] Try.func72 ?_; (with_reducible refine (spec_l3Node.calls a0 true _ A2.out).mono ?_); rintro e w' ⟨rfl, ⟨nd, rfl⟩⟩; refine ⟨_, rfl, ?_⟩) | ((with_reducible refine gate_callee (f := 90) rfl ?_); refine zg (some 7) #[.int .i64 a0] Try.func90 ?_; (with_reducible refine (spec_PutNum.calls k a0 t625 _ A4.out).mono ?_); rintro e w6 ⟨v626, rfl, ho0, hb⟩; refine ⟨_, rfl, ?_⟩; have HO627 := zm (Kd.R_lower ho0 (below_size zB)); replace HB := zm (below_step zB hb); clear hb ho0; obtain ⟨Ao7, co7, eo7⟩ := Kd.R_slice HO627.out; subst eo7) | ((with_reducible refine gate_callee (f := 62) rfl ?_); refine zg (some 8) #[.slice Ao7 t625.length co7] Try.func62 ?_; (with_reducible refine (spec_Crc.calls k _ _ t625 t628 _ ?side1 ?side2 A5.out).mono ?_); (case side1 => repeat (first | exact (Kd.R_reads' HO627.out).2.2 | (with_reducible refine Kd.C_alloc ?_ _) | (with_reducible refine Kd.C_drewN ?_ _) | (with_reducible refine Kd.C_drew ?_))); (case side2 => exact (Kd.R_reads' HO627.out).2.1); rintro e w' ⟨rfl, ⟨nd, rfl⟩⟩; refine ⟨_, rfl, ?_⟩))
  go_ret
  exact ⟨zE, zB⟩
 ·replace c3 := Bool.eq_false_iff.mpr c3
  subst c3
  have H1 : (some (-1)) = some r := by rw [if_neg (show ¬ (false = true) by decide)] at H; exact H
  clear H
  have H := H1
  clear H1
  obtain rfl := Option.some.inj H
  go_enter Try.func100, Try.ntmps100
  go_wp2_with (first | ((with_reducible refine gate_callee (f := 72) rfl ?_); refine zg (some 4) #[.int .i64 a0] Try.func72 ?_; (with_reducible refine (spec_l3Node.calls a0 false _ A2.out).mono ?_); rintro e w' ⟨rfl, ⟨nd, rfl⟩⟩; refine ⟨_, rfl, ?_⟩))
  go_ret
  exact ⟨zE, zB⟩

/-! ### spec_l6Slice: function 63 -/
mutual
def spec_l6Slice.l0 : Nat → List Int → Int → List (S68) → List (S72) → List (S68) → Option ((List (S68)) × (List (S72)))
 | 0, _, _, _, _, _ => none
 | k + 1, x1, x6, x630000, x630001, x632000 => if x6 < (x630000.length : Int) then (if 0 ≤ x6 then ((spec_LeafOf.f k ((rd_T68 x630000 x6).f0)).bind fun t633 => ((spec_l1Has.f k x1 t633).bind fun t634 => (if t634 = true then (if x632000.length < 2513169434916 then (spec_l6Slice.l0 k x1 (wrap64 (x6 + 1)) x630000 x630001 (x632000 ++ [(⟨(rd_T68 x630000 x6).f0, (⟨(rd_T68 x630000 x6).f1.f0, (rd_T68 x630000 x6).f1.f1, (rd_T68 x630000 x6).f1.f2, (rd_T68 x630000 x6).f1.f3, (rd_T68 x630000 x6).f1.f4⟩ : S66)⟩ : S68)])) else (none)) else (spec_l6Slice.l0 k x1 (wrap64 (x6 + 1)) x630000 x630001 x632000)))) else (none)) else (spec_l6Slice.l1 k x1 0 x630000 x630001 x632000 ([] : List (S72)))
def spec_l6Slice.l1 : Nat → List Int → Int → List (S68) → List (S72) → List (S68) → List (S72) → Option ((List (S68)) × (List (S72)))
 | 0, _, _, _, _, _, _ => none
 | k + 1, x1, x7, x630000, x630001, x632000, x632001 => if x7 < (x630001.length : Int) then (if 0 ≤ x7 then ((spec_LeafOf.f k ((rd_T72 x630001 x7).f0)).bind fun t640 => ((spec_l1Has.f k x1 t640).bind fun t641 => (if t641 = true then (if x632001.length < 8796093022208 then (spec_l6Slice.l1 k x1 (wrap64 (x7 + 1)) x630000 x630001 x632000 (x632001 ++ [(⟨(rd_T72 x630001 x7).f0, (rd_T72 x630001 x7).f1⟩ : S72)])) else (none)) else (spec_l6Slice.l1 k x1 (wrap64 (x7 + 1)) x630000 x630001 x632000 x632001)))) else (none)) else (some (x632000, x632001))
end
def spec_l6Slice.f (k : Nat) (l0_0 : List (S68)) (l0_1 : List (S72)) (l1 : List Int) : Option ((List (S68)) × (List (S72))) := spec_l6Slice.l0 k l1 0 l0_0 l0_1 ([] : List (S68))
theorem spec_l6Slice.mono_l : ∀ k, (∀ y0 y1 y2 y3 y4, LeO (spec_l6Slice.l0 k y0 y1 y2 y3 y4) (spec_l6Slice.l0 (k + 1) y0 y1 y2 y3 y4)) ∧ (∀ y0 y1 y2 y3 y4 y5, LeO (spec_l6Slice.l1 k y0 y1 y2 y3 y4 y5) (spec_l6Slice.l1 (k + 1) y0 y1 y2 y3 y4 y5))
 | 0 => ⟨fun _ _ _ _ _ r h => by simp [spec_l6Slice.l0] at h, fun _ _ _ _ _ _ r h => by simp [spec_l6Slice.l1] at h⟩
 | k + 1 => by
  obtain ⟨ih0, ih1⟩ := spec_l6Slice.mono_l k
  refine ⟨?_, ?_⟩
  ·intro y0 y1 y2 y3 y4
   unfold spec_l6Slice.l0
   repeat' first
   | (with_reducible exact ih0 _ _ _ _ _)
   | (with_reducible exact ih1 _ _ _ _ _ _)
   | (with_reducible exact spec_LeafOf.mono _ _)
   | (with_reducible exact spec_l1Has.mono _ _ _)
   | (with_reducible exact LeO.refl _)
   | (with_reducible exact LeO.none _)
   | (with_reducible refine LeO.ite ?_ ?_)
   | (with_reducible refine LeO.bind ?_ (fun _ => ?_))
   | exact ih0 _ _ _ _ _
   | exact ih1 _ _ _ _ _ _
   | exact spec_LeafOf.mono _ _
   | exact spec_l1Has.mono _ _ _
   | exact LeO.none _
   | refine LeO.ite ?_ ?_
   | refine LeO.bind ?_ (fun _ => ?_)
  ·intro y0 y1 y2 y3 y4 y5
   unfold spec_l6Slice.l1
   repeat' first
   | (with_reducible exact ih0 _ _ _ _ _)
   | (with_reducible exact ih1 _ _ _ _ _ _)
   | (with_reducible exact spec_LeafOf.mono _ _)
   | (with_reducible exact spec_l1Has.mono _ _ _)
   | (with_reducible exact LeO.refl _)
   | (with_reducible exact LeO.none _)
   | (with_reducible refine LeO.ite ?_ ?_)
   | (with_reducible refine LeO.bind ?_ (fun _ => ?_))
   | exact ih0 _ _ _ _ _
   | exact ih1 _ _ _ _ _ _
   | exact spec_LeafOf.mono _ _
   | exact spec_l1Has.mono _ _ _
   | exact LeO.none _
   | refine LeO.ite ?_ ?_
   | refine LeO.bind ?_ (fun _ => ?_)
theorem spec_l6Slice.mono : ∀ a0 a1 a2 k, LeO (spec_l6Slice.f k a0 a1 a2) (spec_l6Slice.f (k + 1) a0 a1 a2) := by
 intro a0 a1 a2 k
 obtain ⟨ih0, ih1⟩ := spec_l6Slice.mono_l k
 unfold spec_l6Slice.f
 repeat' first
   | (with_reducible exact ih0 _ _ _ _ _)
   | (with_reducible exact ih1 _ _ _ _ _ _)
   | (with_reducible exact spec_LeafOf.mono _ _)
   | (with_reducible exact spec_l1Has.mono _ _ _)
   | (with_reducible exact LeO.refl _)
   | (with_reducible exact LeO.none _)
   | (with_reducible refine LeO.ite ?_ ?_)
   | (with_reducible refine LeO.bind ?_ (fun _ => ?_))
   | exact ih0 _ _ _ _ _
   | exact ih1 _ _ _ _ _ _
   | exact spec_LeafOf.mono _ _
   | exact spec_l1Has.mono _ _ _
   | exact LeO.none _
   | refine LeO.ite ?_ ?_
   | refine LeO.bind ?_ (fun _ => ?_)
def spec_l6Slice.T6 : Bool × List (List Nat × List Nat) := (true, [([], []), ([0], [0]), ([], []), ([2], [2]), ([], []), ([3, 4], [3, 4]), ([5], [5]), ([6], [6]), ([1, 7], [1, 7]), ([0, 1, 2, 3, 4, 5, 6, 7, 8], []), ([9, 8, 8, 0, 1, 2, 3, 4, 5, 6, 7, 8], [8, 9])])
def spec_l6Slice.B6 : List Nat := [0, 1, 0, 4, 0, 28, 60, 124, 255, 511, 1023]
theorem spec_l6Slice.tab6 : rtab .any (opsOf Try.f63 6) = spec_l6Slice.T6 := by kernel_rfl
theorem spec_l6Slice.bits6 : waitsOk spec_l6Slice.T6.2 spec_l6Slice.B6 = true := by kernel_rfl
def spec_l6Slice.T11 : Bool × List (List Nat × List Nat) := (true, [([], []), ([0], [0]), ([], []), ([2], [2]), ([], []), ([3, 4], [3, 4]), ([5], [5]), ([6], [6]), ([1, 7], [1, 7]), ([0, 1, 2, 3, 4, 5, 6, 7, 8], []), ([9, 8, 8, 0, 1, 2, 3, 4, 5, 6, 7, 8], [8, 9])])
def spec_l6Slice.B11 : List Nat := [0, 1, 0, 4, 0, 28, 60, 124, 255, 511, 1023]
theorem spec_l6Slice.tab11 : rtab .any (opsOf Try.f63 11) = spec_l6Slice.T11 := by kernel_rfl
theorem spec_l6Slice.bits11 : waitsOk spec_l6Slice.T11.2 spec_l6Slice.B11 = true := by kernel_rfl
set_option maxHeartbeats 8000000 in
set_option maxRecDepth 100000 in
theorem spec_l6Slice.calls (k : Nat) (A0_0 : Option Addr) (c0_0 : Nat) (l0_0 : List (S68)) (A0_1 : Option Addr) (c0_1 : Nat) (l0_1 : List (S72)) (A1 : Option Addr) (c1 : Nat) (l1 : List Int) (r1 : List (S68)) (r2 : List (S72)) (w : World) (hr0_0 : Kd.C k68 w A0_0 l0_0.length l0_0) (hc0_0 : l0_0.length ≤ c0_0) (hr0_1 : Kd.C k72 w A0_1 l0_1.length l0_1) (hc0_1 : l0_1.length ≤ c0_1) (hr1 : Kd.C (Kd.int .i64) w A1 l1.length l1) (hc1 : l1.length ≤ c1) (h : spec_l6Slice.f k l0_0 l0_1 l1 = some (r1, r2)) :
  Calls Try.prog 63 #[.agg #[.slice A0_0 l0_0.length c0_0, .slice A0_1 l0_1.length c0_1], .slice A1 l1.length c1] w fun e w' => ∃ v0_ v1_ : Value, e = .returned (.agg #[v0_, v1_]) ∧ Kd.R k68 68 w' w.heap.size (fun _ => True) v0_ r1 ∧ Kd.R k72 72 w' w.heap.size (fun _ => True) v1_ r2 ∧ Below w.heap.size w w' := by
 have hu32 := Try.underlying32
 have hu68 := Try.underlying68
 have hu72 := Try.underlying72
 have HR0_0 := zm hr0_0
 have HC0_0 := zm hc0_0
 clear hr0_0 hc0_0
 have HR0_1 := zm hr0_1
 have HC0_1 := zm hc0_1
 clear hr0_1 hc0_1
 have HR1 := zm hr1
 have HC1 := zm hc1
 clear hr1 hc1
 have HB := zm (Below.refl w.heap.size w)
 have H : (spec_l6Slice.l0 k l1 0 l0_0 l0_1 ([] : List (S68))) = some (r1, r2) := h
 clear h
 have H' := zm H
 clear H
 go_enter Try.func63, Try.ntmps63
 go_wp2_with (first | ((with_reducible refine gate_dst (N := 2) rfl ?_); refine zbox 2 #[.slice A0_0 l0_0.length c0_0, .slice A0_1 l0_1.length c0_1] 32 ?_; intro gb629 hg w3 hbox hb; have BK629 := zm (hbox); have GW629 := zge w hg zB; have GE629 := zge w hg zB; replace HB := zm (below_step zB hb); clear hb hbox hg) | ((with_reducible refine gate_dst (N := 4) rfl ?_); refine zbox 4 #[.slice none 0 0, .slice none 0 0] 32 ?_; intro gb630 hg w4 hbox hb; have BK630 := zm (hbox); have GW630 := zge w hg zB; have GE630 := zge w hg zB; replace HB := zm (below_step zB hb); have NB629_630 := zlt hg (zb BK629); have NB630_629 := zgt hg (zb BK629); replace BK629 := zm (blk_below (zb BK629) hb); clear hb hbox hg) | ((with_reducible refine gate_dst (N := 5) rfl ?_); refine zbox 5 #[.slice none 0 0, .slice none 0 0] 32 ?_; intro gb631 hg w5 hbox hb; have BK631 := zm (hbox); have GW631 := zge w hg zB; have GE631 := zge w hg zB; replace HB := zm (below_step zB hb); have NB629_631 := zlt hg (zb BK629); have NB631_629 := zgt hg (zb BK629); replace BK629 := zm (blk_below (zb BK629) hb); have NB630_631 := zlt hg (zb BK630); have NB631_630 := zgt hg (zb BK630); replace BK630 := zm (blk_below (zb BK630) hb); clear hb hbox hg; have hnb6 := NB631_629.out; have hnc6 := NB629_631.out; have hnb7 := NB631_630.out; have hnc7 := NB630_631.out; have hcz8_0 : w5.cell? ⟨gb631, 0, none⟩ = some (.slice none 0 0) := (blk_cell BK631.out 0).trans rfl; have hcz8_1 : w5.cell? ⟨gb631, 1, none⟩ = some (.slice none 0 0) := (blk_cell BK631.out 1).trans rfl; have hfz8_0 := blk_frozen BK631.out 0; have hfz8_1 := blk_frozen BK631.out 1))
 go_loopg [6] k (fun kq v6 w' => ∃ (x6_1 : Int) (x632000_1 : List (S68)) (u632000 : Value), v6 = .int .i64 x6_1 ∧ Aside0 (spec_l6Slice.l0 kq l1 x6_1 l0_0 l0_1 x632000_1 = some (r1, r2)) ∧ Aside0 (kq ≤ k) ∧ Aside0 (Kd.R k68 68 w' w.heap.size (fun _ => True) u632000 x632000_1) ∧ Aside0 (w'.heap[gb629]? = some (.cells #[(.slice A0_0 l0_0.length c0_0), (.slice A0_1 l0_1.length c0_1)] 32 (0, 0))) ∧ Aside0 (w'.heap[gb630]? = some (.cells #[(.slice none 0 0), (.slice none 0 0)] 32 (0, 0))) ∧ Aside0 (w'.heap[gb631]? = some (.cells #[u632000, (.slice none 0 0)] 32 (0, 0))) ∧ Aside0 (Below w.heap.size w w'))
 case atStart => exact ⟨(0), (([] : List (S68))), (.slice none 0 0), zF, H', ⟨Nat.le_refl _⟩, ⟨by first | exact Kd.R_nil _ _ _ _ _ | exact Kd.N_nil _ _ _ _ _ | exact Kd.V_nil _ _ _ _ _ | exact Kd.Q_nil _ _ _ _ _ | exact Kd.S_nil _ _ _ _ _⟩, ⟨zfar (zfar (zb BK629) NB629_631) NB629_631⟩, ⟨zfar (zfar (zb BK630) NB630_631) NB630_631⟩, ⟨zput (zput (zb BK631) 0) 1⟩, ⟨zB⟩⟩
 case round =>
  clear H'
  try clear c1
  try clear p2
  try clear c6
  try clear c7
  try clear hcz8_0
  try clear hcz8_1
  try clear hfz8_0
  try clear hfz8_1
  obtain ⟨x6_1, x632000_1, u632000, rfl, HA, HK1, HO_632000, BK629, BK630, BK631, HB⟩ := hrel
  cases gk with
  | zero => exact absurd HA.out (by simp [spec_l6Slice.l0])
  | succ k1 =>
   have H := HA.out
   clear HA
   simp only [spec_l6Slice.l0] at H
   by_cases c9 : x6_1 < (l0_0.length : Int)
   ·rw [if_pos c9] at H
    have c9b0 : decide (x6_1 < (l0_0.length : Int)) = true := decide_eq_true c9
    clear c9
    by_cases c10 : 0 ≤ x6_1
    ·rw [if_pos c10] at H
     have c10b0 : decide (0 ≤ x6_1) = true := decide_eq_true c10
     clear c10
     replace H := Option.bind_eq_some_iff.mp H
     obtain ⟨t633, A110, H⟩ := H
     replace H : ((spec_l1Has.f k1 l1 t633).bind fun t634 => (if t634 = true then (if x632000_1.length < 2513169434916 then (spec_l6Slice.l0 k1 l1 (wrap64 (x6_1 + 1)) l0_0 l0_1 (x632000_1 ++ [(⟨(rd_T68 l0_0 x6_1).f0, (⟨(rd_T68 l0_0 x6_1).f1.f0, (rd_T68 l0_0 x6_1).f1.f1, (rd_T68 l0_0 x6_1).f1.f2, (rd_T68 l0_0 x6_1).f1.f3, (rd_T68 l0_0 x6_1).f1.f4⟩ : S66)⟩ : S68)])) else (none)) else (spec_l6Slice.l0 k1 l1 (wrap64 (x6_1 + 1)) l0_0 l0_1 x632000_1))) = some (r1, r2) := H
     have A11 := zm A110
     clear A110
     replace H := Option.bind_eq_some_iff.mp H
     obtain ⟨t634, A120, H⟩ := H
     replace H : (if t634 = true then (if x632000_1.length < 2513169434916 then (spec_l6Slice.l0 k1 l1 (wrap64 (x6_1 + 1)) l0_0 l0_1 (x632000_1 ++ [(⟨(rd_T68 l0_0 x6_1).f0, (⟨(rd_T68 l0_0 x6_1).f1.f0, (rd_T68 l0_0 x6_1).f1.f1, (rd_T68 l0_0 x6_1).f1.f2, (rd_T68 l0_0 x6_1).f1.f3, (rd_T68 l0_0 x6_1).f1.f4⟩ : S66)⟩ : S68)])) else (none)) else (spec_l6Slice.l0 k1 l1 (wrap64 (x6_1 + 1)) l0_0 l0_1 x632000_1)) = some (r1, r2) := H
     have A12 := zm A120
     clear A120
     by_cases c13 : t634 = true
     ·subst c13
      have H1 : (if x632000_1.length < 2513169434916 then (spec_l6Slice.l0 k1 l1 (wrap64 (x6_1 + 1)) l0_0 l0_1 (x632000_1 ++ [(⟨(rd_T68 l0_0 x6_1).f0, (⟨(rd_T68 l0_0 x6_1).f1.f0, (rd_T68 l0_0 x6_1).f1.f1, (rd_T68 l0_0 x6_1).f1.f2, (rd_T68 l0_0 x6_1).f1.f3, (rd_T68 l0_0 x6_1).f1.f4⟩ : S66)⟩ : S68)])) else (none)) = some (r1, r2) := by rw [if_pos rfl] at H; exact H
      clear H
      have H := H1
      clear H1
      by_cases c14 : x632000_1.length < 2513169434916
      ·rw [if_pos c14] at H
       have LMc14 := zm c14
       clear c14
       obtain ⟨y636, hy636⟩ : ∃ y_ : List (S68), y_ = (x632000_1 ++ [(⟨(rd_T68 l0_0 x6_1).f0, (⟨(rd_T68 l0_0 x6_1).f1.f0, (rd_T68 l0_0 x6_1).f1.f1, (rd_T68 l0_0 x6_1).f1.f2, (rd_T68 l0_0 x6_1).f1.f3, (rd_T68 l0_0 x6_1).f1.f4⟩ : S66)⟩ : S68)]) := ⟨_, rfl⟩
       replace H : (spec_l6Slice.l0 k1 l1 (wrap64 (x6_1 + 1)) l0_0 l0_1 y636) = some (r1, r2) := by first | (rw [hy636]; with_reducible exact H) | (have H2_ := (Option.bind_some _ _).symm.trans H; rw [hy636]; with_reducible exact H2_) | (have H2_ := (Option.bind_some _ _).symm.trans H; with_reducible exact H2_) | with_reducible exact H | (rw [hy636]; exact H) | exact H
       have Ny636 := zm hy636
       clear hy636
       have H' := zm H
       clear H
       have hnb15 := NB629_630.out
       have hnc15 := NB630_629.out
       have hnb16 := NB629_631.out
       have hnc16 := NB631_629.out
       have hcz17_0 : wr.cell? ⟨gb629, 0, none⟩ = some (.slice A0_0 l0_0.length c0_0) := (blk_cell BK629.out 0).trans rfl
       have hcz17_1 : wr.cell? ⟨gb629, 1, none⟩ = some (.slice A0_1 l0_1.length c0_1) := (blk_cell BK629.out 1).trans rfl
       have hfz17_0 := blk_frozen BK629.out 0
       have hfz17_1 := blk_frozen BK629.out 1
       have p632 : 0 ≤ (x6_1 : Int) := zd
       have q632 : x6_1 < (l0_0.length : Int) := zd
       obtain ⟨ad632, e632, hx632_0, hx632_1, hx632_2, hx632_3, hx632_4, hx632_5⟩ := at_T68 (Kd.C_below HR0_0.out HB.out) x6_1 p632 q632
       cases e632
       replace p632 := eq_true p632
       replace q632 := eq_true q632
       try go_wp2_with (first | ((with_reducible refine gate_callee (f := 100) rfl ?_); refine zg (some 23) #[.int .i64 ((rd_T68 l0_0 x6_1).f0)] Try.func100 ?_; (with_reducible refine (spec_LeafOf.calls k1 ((rd_T68 l0_0 x6_1).f0) t633 _ A11.out).mono ?_); rintro e w18 ⟨rfl, hb⟩; refine ⟨_, rfl, ?_⟩; replace HO_632000 := zm (Kd.R_below (zr HO_632000) hb); replace BK629 := zm (blk_below (zb BK629) hb); replace BK630 := zm (blk_below (zb BK630) hb); replace BK631 := zm (blk_below (zb BK631) hb); replace HB := zm (below_step zB hb); clear hb) | ((with_reducible refine gate_callee (f := 99) rfl ?_); refine zg (some 24) #[.slice A1 l1.length c1, .int .i64 t633] Try.func99 ?_; (with_reducible refine (spec_l1Has.calls k1 _ _ l1 t633 true _ (zk (Kd.C_below HR1.out HB.out)) HC1.out A12.out).mono ?_); rintro e w' ⟨rfl, ⟨nd, rfl⟩⟩; refine ⟨_, rfl, ?_⟩; (try (rw [drewN_self w18]; generalize hq_ : World.drewN w18 _ = w18; have n0_ := zm (Kd.R_at hq_ HO_632000.out); have n1_ := zm (blk_at hq_ BK629.out); have n2_ := zm (blk_at hq_ BK630.out); have n3_ := zm (blk_at hq_ BK631.out); have n4_ := zm (below_at hq_ HB.out); clear hq_ HO_632000 BK629 BK630 BK631 HB; have HO_632000 := n0_; have BK629 := n1_; have BK630 := n2_; have BK631 := n3_; have HB := n4_; clear n0_ n1_ n2_ n3_ n4_))))
       replace HO_632000 := zm (Kd.R_drew HO_632000.out)
       replace BK629 := zm (blk_drew BK629.out)
       replace BK630 := zm (blk_drew BK630.out)
       replace BK631 := zm (blk_drew BK631.out)
       replace HB := zm (below_drew1 HB.out)
       have p635 : 0 ≤ (x6_1 : Int) := zd
       have q635 : x6_1 < (l0_0.length : Int) := zd
       obtain ⟨ad635, e635, hx635_0, hx635_1, hx635_2, hx635_3, hx635_4, hx635_5⟩ := at_T68 HR0_0.out x6_1 p635 q635
       have hw635_5 := hx635_5
       have hw635_4 := hx635_4
       have hw635_3 := hx635_3
       have hw635_2 := hx635_2
       have hw635_1 := hx635_1
       have hw635_0 := hx635_0
       obtain rfl : ad632 = ad635 := (by injection e635)
       replace hx635_0 := (HB.out.cell (World.block_lt_of_cell? w _ hx635_0)).trans hx635_0
       replace hx635_1 := (HB.out.cell (World.block_lt_of_cell? w _ hx635_1)).trans hx635_1
       replace hx635_2 := (HB.out.cell (World.block_lt_of_cell? w _ hx635_2)).trans hx635_2
       replace hx635_3 := (HB.out.cell (World.block_lt_of_cell? w _ hx635_3)).trans hx635_3
       replace hx635_4 := (HB.out.cell (World.block_lt_of_cell? w _ hx635_4)).trans hx635_4
       replace hx635_5 := (HB.out.cell (World.block_lt_of_cell? w _ hx635_5)).trans hx635_5
       replace p635 := eq_true p635
       replace q635 := eq_true q635
       refine start_ (n := 11) (S := fun w' => w'.cell? ⟨gb631, 0, none⟩ = some (u632000) ∧ w'.cell? ⟨gb631, 1, none⟩ = some (.slice none 0 0) ∧ w'.cell? ⟨gb629, 0, none⟩ = some (.slice (some ad632) l0_0.length c0_0) ∧ w'.cell? ⟨gb629, 1, none⟩ = some (.slice A0_1 l0_1.length c0_1) ∧ w'.cell? (ad632.add ((x6_1).toNat * 6)) = some (.int .i64 ((rd_T68 l0_0 x6_1).f0)) ∧ w'.cell? ⟨(ad632.add ((x6_1).toNat * 6)).block, (ad632.add ((x6_1).toNat * 6)).off + 1, none⟩ = some (.int .i64 ((rd_T68 l0_0 x6_1).f1.f0)) ∧ w'.cell? ⟨(ad632.add ((x6_1).toNat * 6)).block, (ad632.add ((x6_1).toNat * 6)).off + 2, none⟩ = some (.int .i64 ((rd_T68 l0_0 x6_1).f1.f1)) ∧ w'.cell? ⟨(ad632.add ((x6_1).toNat * 6)).block, (ad632.add ((x6_1).toNat * 6)).off + 3, none⟩ = some (.int .i64 ((rd_T68 l0_0 x6_1).f1.f2)) ∧ w'.cell? ⟨(ad632.add ((x6_1).toNat * 6)).block, (ad632.add ((x6_1).toNat * 6)).off + 4, none⟩ = some (.int .i64 ((rd_T68 l0_0 x6_1).f1.f3)) ∧ w'.cell? ⟨(ad632.add ((x6_1).toNat * 6)).block, (ad632.add ((x6_1).toNat * 6)).off + 5, none⟩ = some (.string ((rd_T68 l0_0 x6_1).f1.f4))) (ds := [10]) (zl 11 0) (by kernel_rfl) rfl rfl ⟨(blk_cell BK631.out 0).trans rfl, (blk_cell BK631.out 1).trans rfl, (blk_cell BK629.out 0).trans rfl, (blk_cell BK629.out 1).trans rfl, ((HB.out.cell (World.block_lt_of_cell? w _ hw635_0)).trans hw635_0), ((HB.out.cell (World.block_lt_of_cell? w _ hw635_1)).trans hw635_1), ((HB.out.cell (World.block_lt_of_cell? w _ hw635_2)).trans hw635_2), ((HB.out.cell (World.block_lt_of_cell? w _ hw635_3)).trans hw635_3), ((HB.out.cell (World.block_lt_of_cell? w _ hw635_4)).trans hw635_4), ((HB.out.cell (World.block_lt_of_cell? w _ hw635_5)).trans hw635_5)⟩ (fun hHeld => ?_); refine with_tabW spec_l6Slice.tab6 spec_l6Slice.bits6 (fun HT_ HW_ => ?_)
       generalize w18.drew = w19 at HO_632000 BK629 BK630 BK631 HB hx635_0 hx635_1 hx635_2 hx635_3 hx635_4 hx635_5 hHeld ⊢
       refine zp 0 (some 25) (zl 11 1) ?_
       refine zp 2 (some 27) (zl 11 5) ?_
       refine zp 4 (some 29) (zl 11 21) ?_
       refine zt 1 (some 26) (zl 11 23) ?_
       refine zt 3 (some 28) (zl 11 31) ?_
       refine zp 5 (some 30) (zl 11 63) ?_
       refine zt 6 (some 31) (zl 11 127) ?_
       refine zo 7 (some 32) (zl 11 255) (fun K hK => ?_)
       refine value_ (w1 := ?_) (v := ?_) (by rfl) rfl ?_ ?_
       rotate_left 2
       ·go_simp
        constructor
        ·rfl
        ·rfl
       refine hK.out _ _ ⟨(blk_cell (blk_alloc BK631.out _) 0).trans rfl, (blk_cell (blk_alloc BK631.out _) 1).trans rfl, (blk_cell (blk_alloc BK629.out _) 0).trans rfl, (blk_cell (blk_alloc BK629.out _) 1).trans rfl, (World.cell?_alloc_lt _ _ _ (World.block_lt_of_cell? _ _ (((HB.out.cell (World.block_lt_of_cell? w _ hw635_0)).trans hw635_0)))).trans (((HB.out.cell (World.block_lt_of_cell? w _ hw635_0)).trans hw635_0)), (World.cell?_alloc_lt _ _ _ (World.block_lt_of_cell? _ _ (((HB.out.cell (World.block_lt_of_cell? w _ hw635_1)).trans hw635_1)))).trans (((HB.out.cell (World.block_lt_of_cell? w _ hw635_1)).trans hw635_1)), (World.cell?_alloc_lt _ _ _ (World.block_lt_of_cell? _ _ (((HB.out.cell (World.block_lt_of_cell? w _ hw635_2)).trans hw635_2)))).trans (((HB.out.cell (World.block_lt_of_cell? w _ hw635_2)).trans hw635_2)), (World.cell?_alloc_lt _ _ _ (World.block_lt_of_cell? _ _ (((HB.out.cell (World.block_lt_of_cell? w _ hw635_3)).trans hw635_3)))).trans (((HB.out.cell (World.block_lt_of_cell? w _ hw635_3)).trans hw635_3)), (World.cell?_alloc_lt _ _ _ (World.block_lt_of_cell? _ _ (((HB.out.cell (World.block_lt_of_cell? w _ hw635_4)).trans hw635_4)))).trans (((HB.out.cell (World.block_lt_of_cell? w _ hw635_4)).trans hw635_4)), (World.cell?_alloc_lt _ _ _ (World.block_lt_of_cell? _ _ (((HB.out.cell (World.block_lt_of_cell? w _ hw635_5)).trans hw635_5)))).trans (((HB.out.cell (World.block_lt_of_cell? w _ hw635_5)).trans hw635_5))⟩ (fun hHeld => ?_)
       clear hK K
       refine zn ?_
       refine zo 8 (some 33) (zl 11 511) (fun K hK => ?_)
       refine Kd.R_append_step k68 (w0 := w) w.heap.size (by rfl) (.tmp 26) (.tmp 32) 29 68 (.agg #[(.int .i64 0), (.int .i64 0), (.int .i64 0), (.int .i64 0), (.int .i64 0), (.string ⟨#[]⟩)]) 56 rfl Try.underlying29 info68 rfl (by decide) (by omega) u632000 x632000_1 (⟨(rd_T68 l0_0 x6_1).f0, (⟨(rd_T68 l0_0 x6_1).f1.f0, (rd_T68 l0_0 x6_1).f1.f1, (rd_T68 l0_0 x6_1).f1.f2, (rd_T68 l0_0 x6_1).f1.f3, (rd_T68 l0_0 x6_1).f1.f4⟩ : S66)⟩ : S68) [.int .i64 ((rd_T68 l0_0 x6_1).f0), .int .i64 ((rd_T68 l0_0 x6_1).f1.f0), .int .i64 ((rd_T68 l0_0 x6_1).f1.f1), .int .i64 ((rd_T68 l0_0 x6_1).f1.f2), .int .i64 ((rd_T68 l0_0 x6_1).f1.f3), .string ((rd_T68 l0_0 x6_1).f1.f4)] (fun _ => True) (fun _ => False) rfl rfl ?aP (fun _ hk => hk.elim) ?aF ?aO ?aB ?aS ?aL ?_
       (case aP => exact k68_mkM _ _ _ (⟨(rd_T68 l0_0 x6_1).f0, (⟨(rd_T68 l0_0 x6_1).f1.f0, (rd_T68 l0_0 x6_1).f1.f1, (rd_T68 l0_0 x6_1).f1.f2, (rd_T68 l0_0 x6_1).f1.f3, (rd_T68 l0_0 x6_1).f1.f4⟩ : S66)⟩ : S68))
       (case aB => exact zB)
       (case aF => exact (fun _ _ => trivial))
       (case aO => exact (zr HO_632000))
       (case aS => exact (below_size zB))
       (case aL => have := LMc14.out; omega)
       intro v637 w20 ho hb hg hat
       rw [← Ny636.out] at ho
       replace BK629 := zm (blk_grown (g := gb629) (o := .cells #[.slice (some ad632) l0_0.length c0_0, .slice A0_1 l0_1.length c0_1] 32 (0, 0)) (zb BK629) hg (Kd.R_ne HO_632000.out BK629.out (by decide)))
       replace BK630 := zm (blk_grown (g := gb630) (o := .cells #[.slice none 0 0, .slice none 0 0] 32 (0, 0)) (zb BK630) hg (Kd.R_ne HO_632000.out BK630.out (by decide)))
       replace BK631 := zm (blk_grown (g := gb631) (o := .cells #[u632000, .slice none 0 0] 32 (0, 0)) (zb BK631) hg (Kd.R_ne HO_632000.out BK631.out (by decide)))
       replace HB := zm (hb)
       have HO638 := zm (ho)
       clear HO_632000
       clear ho hb hg hat
       obtain ⟨Ao21, co21, eo21⟩ := Kd.R_slice HO638.out
       (first | subst eo21 | (injection eo21 with f1_ f2_ f3_; have f4_ := f1_.symm; have f5_ := f3_.symm; clear f1_ f2_ f3_; subst f4_; subst f5_))
       refine hK.out _ _ ⟨(blk_cell BK631.out 0).trans rfl, (blk_cell BK631.out 1).trans rfl, (blk_cell BK629.out 0).trans rfl, (blk_cell BK629.out 1).trans rfl, ((HB.out.cell (World.block_lt_of_cell? w _ hw635_0)).trans hw635_0), ((HB.out.cell (World.block_lt_of_cell? w _ hw635_1)).trans hw635_1), ((HB.out.cell (World.block_lt_of_cell? w _ hw635_2)).trans hw635_2), ((HB.out.cell (World.block_lt_of_cell? w _ hw635_3)).trans hw635_3), ((HB.out.cell (World.block_lt_of_cell? w _ hw635_4)).trans hw635_4), ((HB.out.cell (World.block_lt_of_cell? w _ hw635_5)).trans hw635_5)⟩ (fun hHeld => ?_)
       clear hK K
       refine zn ?_
       refine zp 9 (some 34) (zl 11 1023) ?_
       refine last_ (i := 10) (N := none) #[true, true, true, true, true, true, true, true, true, true, true] rfl rfl (one_of HT_.out (by kernel_rfl)) (by decide) (fun K hK => ?_)
       have hs22 : w20.cell? ⟨gb631, 0, none⟩ = some (u632000) := (blk_cell BK631.out 0).trans rfl
       have hfs22 := blk_frozen BK631.out 0
       have hns22_0 := NB629_631.out
       have hns22_1 := NB630_631.out
       have hms22_0 := NB631_629.out
       have hms22_1 := NB631_630.out
       refine skip_ (w1 := ?_) (by rfl) rfl ?_ ?_
       rotate_left
       ·go_simp
        rfl
       refine hK.out _ _ ?_
       clear hK K
       refine done_ (done_of HT_.out (by kernel_rfl)) ?_
       try go_wp2
       go_roundg k1
       case measure => have := HK1.out; omega
       case rel => exact ⟨(wrap64 (x6_1 + 1)), (y636), (.slice Ao21 y636.length co21), zF, H', ⟨by have := HK1.out; omega⟩, ⟨zrs <| Kd.R_mono (zfr (Kd.R_types HO638.out BK631.out (by decide))) (fun _ hk => trivial)⟩, ⟨zfar (zb BK629) NB629_631⟩, ⟨zfar (zb BK630) NB630_631⟩, ⟨zput (zb BK631) 0⟩, ⟨zB⟩⟩
      ·rw [if_neg c14] at H
       exact absurd H (by simp)
     ·replace c13 := Bool.eq_false_iff.mpr c13
      subst c13
      have H1 : (spec_l6Slice.l0 k1 l1 (wrap64 (x6_1 + 1)) l0_0 l0_1 x632000_1) = some (r1, r2) := by rw [if_neg (show ¬ (false = true) by decide)] at H; exact H
      clear H
      have H := H1
      clear H1
      have H' := zm H
      clear H
      have hnb23 := NB629_630.out
      have hnc23 := NB630_629.out
      have hnb24 := NB629_631.out
      have hnc24 := NB631_629.out
      have hcz25_0 : wr.cell? ⟨gb629, 0, none⟩ = some (.slice A0_0 l0_0.length c0_0) := (blk_cell BK629.out 0).trans rfl
      have hcz25_1 : wr.cell? ⟨gb629, 1, none⟩ = some (.slice A0_1 l0_1.length c0_1) := (blk_cell BK629.out 1).trans rfl
      have hfz25_0 := blk_frozen BK629.out 0
      have hfz25_1 := blk_frozen BK629.out 1
      have p632 : 0 ≤ (x6_1 : Int) := zd
      have q632 : x6_1 < (l0_0.length : Int) := zd
      obtain ⟨ad632, e632, hx632_0, hx632_1, hx632_2, hx632_3, hx632_4, hx632_5⟩ := at_T68 (Kd.C_below HR0_0.out HB.out) x6_1 p632 q632
      cases e632
      replace p632 := eq_true p632
      replace q632 := eq_true q632
      go_wp2_with (first | ((with_reducible refine gate_callee (f := 100) rfl ?_); refine zg (some 23) #[.int .i64 ((rd_T68 l0_0 x6_1).f0)] Try.func100 ?_; (with_reducible refine (spec_LeafOf.calls k1 ((rd_T68 l0_0 x6_1).f0) t633 _ A11.out).mono ?_); rintro e w26 ⟨rfl, hb⟩; refine ⟨_, rfl, ?_⟩; replace HO_632000 := zm (Kd.R_below (zr HO_632000) hb); replace BK629 := zm (blk_below (zb BK629) hb); replace BK630 := zm (blk_below (zb BK630) hb); replace BK631 := zm (blk_below (zb BK631) hb); replace HB := zm (below_step zB hb); clear hb) | ((with_reducible refine gate_callee (f := 99) rfl ?_); refine zg (some 24) #[.slice A1 l1.length c1, .int .i64 t633] Try.func99 ?_; (with_reducible refine (spec_l1Has.calls k1 _ _ l1 t633 false _ (zk (Kd.C_below HR1.out HB.out)) HC1.out A12.out).mono ?_); rintro e w' ⟨rfl, ⟨nd, rfl⟩⟩; refine ⟨_, rfl, ?_⟩))
      go_roundg k1
      case measure => have := HK1.out; omega
      case rel => exact ⟨(wrap64 (x6_1 + 1)), (x632000_1), (u632000), zF, H', ⟨by have := HK1.out; omega⟩, ⟨zr HO_632000⟩, ⟨zb BK629⟩, ⟨zb BK630⟩, ⟨zb BK631⟩, ⟨zB⟩⟩
    ·rw [if_neg c10] at H
     exact absurd H (by simp)
   ·rw [if_neg c9] at H
    have c9b0 : decide (x6_1 < (l0_0.length : Int)) = false := decide_eq_false c9
    clear c9
    have H' := zm H
    clear H
    have hnb27 := NB629_630.out
    have hnc27 := NB630_629.out
    have hnb28 := NB629_631.out
    have hnc28 := NB631_629.out
    have hcz29_0 : wr.cell? ⟨gb629, 0, none⟩ = some (.slice A0_0 l0_0.length c0_0) := (blk_cell BK629.out 0).trans rfl
    have hcz29_1 : wr.cell? ⟨gb629, 1, none⟩ = some (.slice A0_1 l0_1.length c0_1) := (blk_cell BK629.out 1).trans rfl
    have hfz29_0 := blk_frozen BK629.out 0
    have hfz29_1 := blk_frozen BK629.out 1
    go_wp2
    go_loopg [7] k1 (fun kq v7 w' => ∃ (x7_2 : Int) (x632001_2 : List (S72)) (u632001 : Value), v7 = .int .i64 x7_2 ∧ Aside0 (spec_l6Slice.l1 kq l1 x7_2 l0_0 l0_1 x632000_1 x632001_2 = some (r1, r2)) ∧ Aside0 (kq ≤ k1) ∧ Aside0 (Kd.R k68 68 w' w.heap.size (fun _ => True) u632000 x632000_1) ∧ Aside0 (Kd.R k72 72 w' w.heap.size (fun _ => True) u632001 x632001_2) ∧ Aside0 (w'.heap[gb629]? = some (.cells #[(.slice A0_0 l0_0.length c0_0), (.slice A0_1 l0_1.length c0_1)] 32 (0, 0))) ∧ Aside0 (w'.heap[gb630]? = some (.cells #[(.slice none 0 0), (.slice none 0 0)] 32 (0, 0))) ∧ Aside0 (w'.heap[gb631]? = some (.cells #[u632000, u632001] 32 (0, 0))) ∧ Aside0 (Below w.heap.size w w'))
    case atStart => exact ⟨(0), (([] : List (S72))), (.slice none 0 0), zF, H', ⟨Nat.le_refl _⟩, ⟨zr HO_632000⟩, ⟨by first | exact Kd.R_nil _ _ _ _ _ | exact Kd.N_nil _ _ _ _ _ | exact Kd.V_nil _ _ _ _ _ | exact Kd.Q_nil _ _ _ _ _ | exact Kd.S_nil _ _ _ _ _⟩, ⟨zb BK629⟩, ⟨zb BK630⟩, ⟨zb BK631⟩, ⟨zB⟩⟩
    case round =>
     clear H'
     try clear c1
     try clear c2
     try clear p2
     try clear c6
     try clear p6
     try clear q6
     try clear hx6
     try clear c7
     try clear c9
     try clear c9b0
     try clear c10
     try clear c10b0
     try clear c13
     try clear c14
     try clear c15
     try clear c16
     try clear c23
     try clear c24
     try clear c27
     try clear c28
     try clear hcz17_0
     try clear hcz17_1
     try clear hcz25_0
     try clear hcz25_1
     try clear hcz29_0
     try clear hcz29_1
     try clear hcz8_0
     try clear hcz8_1
     try clear hfz17_0
     try clear hfz17_1
     try clear hfz25_0
     try clear hfz25_1
     try clear hfz29_0
     try clear hfz29_1
     try clear hfz8_0
     try clear hfz8_1
     try clear hx632_0
     try clear hx632_1
     try clear hx632_2
     try clear hx632_3
     try clear hx632_4
     try clear hx632_5
     try clear hx635_0
     try clear hx635_1
     try clear hx635_2
     try clear hx635_3
     try clear hx635_4
     try clear hx635_5
     try clear p2
     try clear p632
     try clear p635
     try clear q632
     try clear q635
     obtain ⟨x7_2, x632001_2, u632001, rfl, HA, HK2, HO_632000, HO_632001, BK629, BK630, BK631, HB⟩ := hrel
     cases gk with
     | zero => exact absurd HA.out (by simp [spec_l6Slice.l1])
     | succ k2 =>
      have H := HA.out
      clear HA
      simp only [spec_l6Slice.l1] at H
      by_cases c30 : x7_2 < (l0_1.length : Int)
      ·rw [if_pos c30] at H
       have c30b0 : decide (x7_2 < (l0_1.length : Int)) = true := decide_eq_true c30
       clear c30
       by_cases c31 : 0 ≤ x7_2
       ·rw [if_pos c31] at H
        have c31b0 : decide (0 ≤ x7_2) = true := decide_eq_true c31
        clear c31
        replace H := Option.bind_eq_some_iff.mp H
        obtain ⟨t640, A320, H⟩ := H
        replace H : ((spec_l1Has.f k2 l1 t640).bind fun t641 => (if t641 = true then (if x632001_2.length < 8796093022208 then (spec_l6Slice.l1 k2 l1 (wrap64 (x7_2 + 1)) l0_0 l0_1 x632000_1 (x632001_2 ++ [(⟨(rd_T72 l0_1 x7_2).f0, (rd_T72 l0_1 x7_2).f1⟩ : S72)])) else (none)) else (spec_l6Slice.l1 k2 l1 (wrap64 (x7_2 + 1)) l0_0 l0_1 x632000_1 x632001_2))) = some (r1, r2) := H
        have A32 := zm A320
        clear A320
        replace H := Option.bind_eq_some_iff.mp H
        obtain ⟨t641, A330, H⟩ := H
        replace H : (if t641 = true then (if x632001_2.length < 8796093022208 then (spec_l6Slice.l1 k2 l1 (wrap64 (x7_2 + 1)) l0_0 l0_1 x632000_1 (x632001_2 ++ [(⟨(rd_T72 l0_1 x7_2).f0, (rd_T72 l0_1 x7_2).f1⟩ : S72)])) else (none)) else (spec_l6Slice.l1 k2 l1 (wrap64 (x7_2 + 1)) l0_0 l0_1 x632000_1 x632001_2)) = some (r1, r2) := H
        have A33 := zm A330
        clear A330
        by_cases c34 : t641 = true
        ·subst c34
         have H1 : (if x632001_2.length < 8796093022208 then (spec_l6Slice.l1 k2 l1 (wrap64 (x7_2 + 1)) l0_0 l0_1 x632000_1 (x632001_2 ++ [(⟨(rd_T72 l0_1 x7_2).f0, (rd_T72 l0_1 x7_2).f1⟩ : S72)])) else (none)) = some (r1, r2) := by rw [if_pos rfl] at H; exact H
         clear H
         have H := H1
         clear H1
         by_cases c35 : x632001_2.length < 8796093022208
         ·rw [if_pos c35] at H
          have LMc35 := zm c35
          clear c35
          obtain ⟨y643, hy643⟩ : ∃ y_ : List (S72), y_ = (x632001_2 ++ [(⟨(rd_T72 l0_1 x7_2).f0, (rd_T72 l0_1 x7_2).f1⟩ : S72)]) := ⟨_, rfl⟩
          replace H : (spec_l6Slice.l1 k2 l1 (wrap64 (x7_2 + 1)) l0_0 l0_1 x632000_1 y643) = some (r1, r2) := by first | (rw [hy643]; with_reducible exact H) | (have H2_ := (Option.bind_some _ _).symm.trans H; rw [hy643]; with_reducible exact H2_) | (have H2_ := (Option.bind_some _ _).symm.trans H; with_reducible exact H2_) | with_reducible exact H | (rw [hy643]; exact H) | exact H
          have Ny643 := zm hy643
          clear hy643
          have H' := zm H
          clear H
          have hnb36 := NB629_630.out
          have hnc36 := NB630_629.out
          have hnb37 := NB629_631.out
          have hnc37 := NB631_629.out
          have hcz38_0 : wr.cell? ⟨gb629, 0, none⟩ = some (.slice A0_0 l0_0.length c0_0) := (blk_cell BK629.out 0).trans rfl
          have hcz38_1 : wr.cell? ⟨gb629, 1, none⟩ = some (.slice A0_1 l0_1.length c0_1) := (blk_cell BK629.out 1).trans rfl
          have hfz38_0 := blk_frozen BK629.out 0
          have hfz38_1 := blk_frozen BK629.out 1
          have p639 : 0 ≤ (x7_2 : Int) := zd
          have q639 : x7_2 < (l0_1.length : Int) := zd
          obtain ⟨ad639, e639, hx639_0, hx639_1⟩ := at_T72 (Kd.C_below HR0_1.out HB.out) x7_2 p639 q639
          cases e639
          replace p639 := eq_true p639
          replace q639 := eq_true q639
          try go_wp2_with (first | ((with_reducible refine gate_callee (f := 100) rfl ?_); refine zg (some 49) #[.int .i64 ((rd_T72 l0_1 x7_2).f0)] Try.func100 ?_; (with_reducible refine (spec_LeafOf.calls k2 ((rd_T72 l0_1 x7_2).f0) t640 _ A32.out).mono ?_); rintro e w39 ⟨rfl, hb⟩; refine ⟨_, rfl, ?_⟩; replace HO_632000 := zm (Kd.R_below (zr HO_632000) hb); replace HO_632001 := zm (Kd.R_below (zr HO_632001) hb); replace BK629 := zm (blk_below (zb BK629) hb); replace BK630 := zm (blk_below (zb BK630) hb); replace BK631 := zm (blk_below (zb BK631) hb); replace HB := zm (below_step zB hb); clear hb) | ((with_reducible refine gate_callee (f := 99) rfl ?_); refine zg (some 50) #[.slice A1 l1.length c1, .int .i64 t640] Try.func99 ?_; (with_reducible refine (spec_l1Has.calls k2 _ _ l1 t640 true _ (zk (Kd.C_below HR1.out HB.out)) HC1.out A33.out).mono ?_); rintro e w' ⟨rfl, ⟨nd, rfl⟩⟩; refine ⟨_, rfl, ?_⟩; (try (rw [drewN_self w39]; generalize hq_ : World.drewN w39 _ = w39; have n0_ := zm (Kd.R_at hq_ HO_632000.out); have n1_ := zm (Kd.R_at hq_ HO_632001.out); have n2_ := zm (blk_at hq_ BK629.out); have n3_ := zm (blk_at hq_ BK630.out); have n4_ := zm (blk_at hq_ BK631.out); have n5_ := zm (below_at hq_ HB.out); clear hq_ HO_632000 HO_632001 BK629 BK630 BK631 HB; have HO_632000 := n0_; have HO_632001 := n1_; have BK629 := n2_; have BK630 := n3_; have BK631 := n4_; have HB := n5_; clear n0_ n1_ n2_ n3_ n4_ n5_))))
          replace HO_632000 := zm (Kd.R_drew HO_632000.out)
          replace HO_632001 := zm (Kd.R_drew HO_632001.out)
          replace BK629 := zm (blk_drew BK629.out)
          replace BK630 := zm (blk_drew BK630.out)
          replace BK631 := zm (blk_drew BK631.out)
          replace HB := zm (below_drew1 HB.out)
          have p642 : 0 ≤ (x7_2 : Int) := zd
          have q642 : x7_2 < (l0_1.length : Int) := zd
          obtain ⟨ad642, e642, hx642_0, hx642_1⟩ := at_T72 HR0_1.out x7_2 p642 q642
          have hw642_1 := hx642_1
          have hw642_0 := hx642_0
          obtain rfl : ad639 = ad642 := (by injection e642)
          replace hx642_0 := (HB.out.cell (World.block_lt_of_cell? w _ hx642_0)).trans hx642_0
          replace hx642_1 := (HB.out.cell (World.block_lt_of_cell? w _ hx642_1)).trans hx642_1
          replace p642 := eq_true p642
          replace q642 := eq_true q642
          refine start_ (n := 11) (S := fun w' => w'.cell? ⟨gb631, 0, none⟩ = some (u632000) ∧ w'.cell? ⟨gb631, 1, none⟩ = some (u632001) ∧ w'.cell? ⟨gb629, 0, none⟩ = some (.slice A0_0 l0_0.length c0_0) ∧ w'.cell? ⟨gb629, 1, none⟩ = some (.slice (some ad639) l0_1.length c0_1) ∧ w'.cell? (ad639.add ((x7_2).toNat * 2)) = some (.int .i64 ((rd_T72 l0_1 x7_2).f0)) ∧ w'.cell? ⟨(ad639.add ((x7_2).toNat * 2)).block, (ad639.add ((x7_2).toNat * 2)).off + 1, none⟩ = some (.int .i64 ((rd_T72 l0_1 x7_2).f1))) (ds := [10]) (zl 11 0) (by kernel_rfl) rfl rfl ⟨(blk_cell BK631.out 0).trans rfl, (blk_cell BK631.out 1).trans rfl, (blk_cell BK629.out 0).trans rfl, (blk_cell BK629.out 1).trans rfl, ((HB.out.cell (World.block_lt_of_cell? w _ hw642_0)).trans hw642_0), ((HB.out.cell (World.block_lt_of_cell? w _ hw642_1)).trans hw642_1)⟩ (fun hHeld => ?_); refine with_tabW spec_l6Slice.tab11 spec_l6Slice.bits11 (fun HT_ HW_ => ?_)
          generalize w39.drew = w40 at HO_632000 HO_632001 BK629 BK630 BK631 HB hx642_0 hx642_1 hHeld ⊢
          refine zp 0 (some 51) (zl 11 1) ?_
          refine zp 2 (some 53) (zl 11 5) ?_
          refine zp 4 (some 55) (zl 11 21) ?_
          refine zt 1 (some 52) (zl 11 23) ?_
          refine zt 3 (some 54) (zl 11 31) ?_
          refine zp 5 (some 56) (zl 11 63) ?_
          refine zt 6 (some 57) (zl 11 127) ?_
          refine zo 7 (some 58) (zl 11 255) (fun K hK => ?_)
          refine value_ (w1 := ?_) (v := ?_) (by rfl) rfl ?_ ?_
          rotate_left 2
          ·go_simp
           constructor
           ·rfl
           ·rfl
          refine hK.out _ _ ⟨(blk_cell (blk_alloc BK631.out _) 0).trans rfl, (blk_cell (blk_alloc BK631.out _) 1).trans rfl, (blk_cell (blk_alloc BK629.out _) 0).trans rfl, (blk_cell (blk_alloc BK629.out _) 1).trans rfl, (World.cell?_alloc_lt _ _ _ (World.block_lt_of_cell? _ _ (((HB.out.cell (World.block_lt_of_cell? w _ hw642_0)).trans hw642_0)))).trans (((HB.out.cell (World.block_lt_of_cell? w _ hw642_0)).trans hw642_0)), (World.cell?_alloc_lt _ _ _ (World.block_lt_of_cell? _ _ (((HB.out.cell (World.block_lt_of_cell? w _ hw642_1)).trans hw642_1)))).trans (((HB.out.cell (World.block_lt_of_cell? w _ hw642_1)).trans hw642_1))⟩ (fun hHeld => ?_)
          clear hK K
          refine zn ?_
          refine zo 8 (some 59) (zl 11 511) (fun K hK => ?_)
          refine Kd.R_append_step k72 (w0 := w) w.heap.size (by rfl) (.tmp 52) (.tmp 58) 30 72 (.agg #[(.int .i64 0), (.int .i64 0)]) 16 rfl Try.underlying30 info72 rfl (by decide) (by omega) u632001 x632001_2 (⟨(rd_T72 l0_1 x7_2).f0, (rd_T72 l0_1 x7_2).f1⟩ : S72) [.int .i64 ((rd_T72 l0_1 x7_2).f0), .int .i64 ((rd_T72 l0_1 x7_2).f1)] (fun _ => True) (fun _ => False) rfl rfl ?aP (fun _ hk => hk.elim) ?aF ?aO ?aB ?aS ?aL ?_
          (case aP => exact k72_mkM _ _ _ (⟨(rd_T72 l0_1 x7_2).f0, (rd_T72 l0_1 x7_2).f1⟩ : S72))
          (case aB => exact zB)
          (case aF => exact (fun _ _ => trivial))
          (case aO => exact (zr HO_632001))
          (case aS => exact (below_size zB))
          (case aL => have := LMc35.out; omega)
          intro v644 w41 ho hb hg hat
          rw [← Ny643.out] at ho
          replace HO_632000 := zm (Kd.R_over' (zr HO_632000) (Kd.R_typed (zr HO_632001)) (by decide) hg)
          replace BK629 := zm (blk_grown (g := gb629) (o := .cells #[.slice A0_0 l0_0.length c0_0, .slice (some ad639) l0_1.length c0_1] 32 (0, 0)) (zb BK629) hg (Kd.R_ne HO_632001.out BK629.out (by decide)))
          replace BK630 := zm (blk_grown (g := gb630) (o := .cells #[.slice none 0 0, .slice none 0 0] 32 (0, 0)) (zb BK630) hg (Kd.R_ne HO_632001.out BK630.out (by decide)))
          replace BK631 := zm (blk_grown (g := gb631) (o := .cells #[u632000, u632001] 32 (0, 0)) (zb BK631) hg (Kd.R_ne HO_632001.out BK631.out (by decide)))
          replace HB := zm (hb)
          have HO645 := zm (ho)
          clear HO_632001
          clear ho hb hg hat
          obtain ⟨Ao42, co42, eo42⟩ := Kd.R_slice HO645.out
          (first | subst eo42 | (injection eo42 with f1_ f2_ f3_; have f4_ := f1_.symm; have f5_ := f3_.symm; clear f1_ f2_ f3_; subst f4_; subst f5_))
          refine hK.out _ _ ⟨(blk_cell BK631.out 0).trans rfl, (blk_cell BK631.out 1).trans rfl, (blk_cell BK629.out 0).trans rfl, (blk_cell BK629.out 1).trans rfl, ((HB.out.cell (World.block_lt_of_cell? w _ hw642_0)).trans hw642_0), ((HB.out.cell (World.block_lt_of_cell? w _ hw642_1)).trans hw642_1)⟩ (fun hHeld => ?_)
          clear hK K
          refine zn ?_
          refine zp 9 (some 60) (zl 11 1023) ?_
          refine last_ (i := 10) (N := none) #[true, true, true, true, true, true, true, true, true, true, true] rfl rfl (one_of HT_.out (by kernel_rfl)) (by decide) (fun K hK => ?_)
          have hs43 : w41.cell? ⟨gb631, 1, none⟩ = some (u632001) := (blk_cell BK631.out 1).trans rfl
          have hfs43 := blk_frozen BK631.out 1
          have hns43_0 := NB629_631.out
          have hns43_1 := NB630_631.out
          have hms43_0 := NB631_629.out
          have hms43_1 := NB631_630.out
          refine skip_ (w1 := ?_) (by rfl) rfl ?_ ?_
          rotate_left
          ·go_simp
           rfl
          refine hK.out _ _ ?_
          clear hK K
          refine done_ (done_of HT_.out (by kernel_rfl)) ?_
          try go_wp2
          go_roundg k2
          case measure => have := HK1.out; have := HK2.out; omega
          case rel => exact ⟨(wrap64 (x7_2 + 1)), (y643), (.slice Ao42 y643.length co42), zF, H', ⟨by have := HK1.out; have := HK2.out; omega⟩, ⟨zrs <| Kd.R_mono (zfr (Kd.R_types HO_632000.out BK631.out (by decide))) (fun _ hk => trivial)⟩, ⟨zrs <| Kd.R_mono (zfr (Kd.R_types HO645.out BK631.out (by decide))) (fun _ hk => trivial)⟩, ⟨zfar (zb BK629) NB629_631⟩, ⟨zfar (zb BK630) NB630_631⟩, ⟨zput (zb BK631) 1⟩, ⟨zB⟩⟩
         ·rw [if_neg c35] at H
          exact absurd H (by simp)
        ·replace c34 := Bool.eq_false_iff.mpr c34
         subst c34
         have H1 : (spec_l6Slice.l1 k2 l1 (wrap64 (x7_2 + 1)) l0_0 l0_1 x632000_1 x632001_2) = some (r1, r2) := by rw [if_neg (show ¬ (false = true) by decide)] at H; exact H
         clear H
         have H := H1
         clear H1
         have H' := zm H
         clear H
         have hnb44 := NB629_630.out
         have hnc44 := NB630_629.out
         have hnb45 := NB629_631.out
         have hnc45 := NB631_629.out
         have hcz46_0 : wr.cell? ⟨gb629, 0, none⟩ = some (.slice A0_0 l0_0.length c0_0) := (blk_cell BK629.out 0).trans rfl
         have hcz46_1 : wr.cell? ⟨gb629, 1, none⟩ = some (.slice A0_1 l0_1.length c0_1) := (blk_cell BK629.out 1).trans rfl
         have hfz46_0 := blk_frozen BK629.out 0
         have hfz46_1 := blk_frozen BK629.out 1
         have p639 : 0 ≤ (x7_2 : Int) := zd
         have q639 : x7_2 < (l0_1.length : Int) := zd
         obtain ⟨ad639, e639, hx639_0, hx639_1⟩ := at_T72 (Kd.C_below HR0_1.out HB.out) x7_2 p639 q639
         cases e639
         replace p639 := eq_true p639
         replace q639 := eq_true q639
         go_wp2_with (first | ((with_reducible refine gate_callee (f := 100) rfl ?_); refine zg (some 49) #[.int .i64 ((rd_T72 l0_1 x7_2).f0)] Try.func100 ?_; (with_reducible refine (spec_LeafOf.calls k2 ((rd_T72 l0_1 x7_2).f0) t640 _ A32.out).mono ?_); rintro e w47 ⟨rfl, hb⟩; refine ⟨_, rfl, ?_⟩; replace HO_632000 := zm (Kd.R_below (zr HO_632000) hb); replace HO_632001 := zm (Kd.R_below (zr HO_632001) hb); replace BK629 := zm (blk_below (zb BK629) hb); replace BK630 := zm (blk_below (zb BK630) hb); replace BK631 := zm (blk_below (zb BK631) hb); replace HB := zm (below_step zB hb); clear hb) | ((with_reducible refine gate_callee (f := 99) rfl ?_); refine zg (some 50) #[.slice A1 l1.length c1, .int .i64 t640] Try.func99 ?_; (with_reducible refine (spec_l1Has.calls k2 _ _ l1 t640 false _ (zk (Kd.C_below HR1.out HB.out)) HC1.out A33.out).mono ?_); rintro e w' ⟨rfl, ⟨nd, rfl⟩⟩; refine ⟨_, rfl, ?_⟩))
         go_roundg k2
         case measure => have := HK1.out; have := HK2.out; omega
         case rel => exact ⟨(wrap64 (x7_2 + 1)), (x632001_2), (u632001), zF, H', ⟨by have := HK1.out; have := HK2.out; omega⟩, ⟨zr HO_632000⟩, ⟨zr HO_632001⟩, ⟨zb BK629⟩, ⟨zb BK630⟩, ⟨zb BK631⟩, ⟨zB⟩⟩
       ·rw [if_neg c31] at H
        exact absurd H (by simp)
      ·rw [if_neg c30] at H
       have c30b0 : decide (x7_2 < (l0_1.length : Int)) = false := decide_eq_false c30
       clear c30
       simp only [Option.some.injEq, Prod.mk.injEq] at H
       obtain ⟨rfl, rfl⟩ := H
       have hnb48 := NB629_630.out
       have hnc48 := NB630_629.out
       have hnb49 := NB629_631.out
       have hnc49 := NB631_629.out
       have hcz50_0 : wr.cell? ⟨gb629, 0, none⟩ = some (.slice A0_0 l0_0.length c0_0) := (blk_cell BK629.out 0).trans rfl
       have hcz50_1 : wr.cell? ⟨gb629, 1, none⟩ = some (.slice A0_1 l0_1.length c0_1) := (blk_cell BK629.out 1).trans rfl
       have hfz50_0 := blk_frozen BK629.out 0
       have hfz50_1 := blk_frozen BK629.out 1
       have hnb51 := NB631_630.out
       have hnc51 := NB630_631.out
       have hcz52_0 : wr.cell? ⟨gb631, 0, none⟩ = some (u632000) := (blk_cell BK631.out 0).trans rfl
       have hcz52_1 : wr.cell? ⟨gb631, 1, none⟩ = some (u632001) := (blk_cell BK631.out 1).trans rfl
       have hfz52_0 := blk_frozen BK631.out 0
       have hfz52_1 := blk_frozen BK631.out 1
       obtain ⟨Ao53, co53, eo53⟩ := Kd.R_slice HO_632000.out
       subst eo53
       have hcz54_0 : wr.cell? ⟨gb630, 0, none⟩ = some (.slice none 0 0) := (blk_cell BK630.out 0).trans rfl
       have hcz54_1 : wr.cell? ⟨gb630, 1, none⟩ = some (.slice none 0 0) := (blk_cell BK630.out 1).trans rfl
       have hfz54_0 := blk_frozen BK630.out 0
       have hfz54_1 := blk_frozen BK630.out 1
       obtain ⟨Ao55, co55, eo55⟩ := Kd.R_slice HO_632001.out
       subst eo55
       go_wp2
       refine bodyPost_ret (results_cell_row rfl _ _ gb630 32 #[.slice Ao53 x632000_1.length co53, .slice Ao55 x632001_2.length co55] (0, 0) _ rfl (zput (zput (zb BK630) 0) 1) Try.underlying32 rfl (by kernel_rfl)) rfl ?_
       exact ⟨_, _, zE, zrs <| Kd.R_mono (zfr (zfr (Kd.R_types HO_632000.out BK630.out (by decide)))) (fun _ hk => trivial), zrs <| Kd.R_mono (zfr (zfr (Kd.R_types HO_632001.out BK630.out (by decide)))) (fun _ hk => trivial), zB⟩

end Go.Proofs.Ytgapdegniepjiaa.P
