-- by a program of this session, for this seat
import Derived.Test.YtgapdegniepjiaaZ
import Derived.Test.YtgapdegniepjiaaP0
namespace Go.Proofs.Ytgapdegniepjiaa.P
open Go.RowKit Go.Proofs.YtgapdegniepjiaaW.PrintWords Go.Proofs.YtgapdegniepjiaaW.PrintLast Go.Proofs.YtgapdegniepjiaaW.PrintMore Go.Proofs.Ytgapdegniepjiaa.Z
attribute [local go_sem] max2_int min2_int max_two min_two max_three min_three max_four min_four   -- for this text's walks alone
set_option linter.unusedVariables false
set_option linter.unusedSimpArgs false

/-! ### impl_EntryOf: function 78 -/
def impl_EntryOf.l0 : Nat → Int → List (S68) → Int → Int → Option (Int × Int × Int × Int × ByteArray × Bool)
 | 0, _, _, _, _ => none
 | k + 1, x1, x9, x10, x11 => if x11 < x10 then (if 0 ≤ x11 then (if x11 < (x9.length : Int) then (if ((rd_T68 x9 x11).f0) = x1 then (some ((rd_T68 x9 x11).f1.f0, (rd_T68 x9 x11).f1.f1, (rd_T68 x9 x11).f1.f2, (rd_T68 x9 x11).f1.f3, (rd_T68 x9 x11).f1.f4, true)) else (impl_EntryOf.l0 k x1 x9 x10 (wrap64 (x11 + 1)))) else (none)) else (none)) else (some (0, 0, 0, 0, (⟨#[]⟩ : ByteArray), false))
def impl_EntryOf.f (k : Nat) (l0_0 : List (S68)) (l0_1 : List (S72)) (a1 : Int) : Option (Int × Int × Int × Int × ByteArray × Bool) := impl_EntryOf.l0 k a1 l0_0 (l0_0.length : Int) 0
theorem impl_EntryOf.mono_l : ∀ k, (∀ y0 y1 y2 y3, LeO (impl_EntryOf.l0 k y0 y1 y2 y3) (impl_EntryOf.l0 (k + 1) y0 y1 y2 y3))
 | 0 => fun _ _ _ _ r h => by simp [impl_EntryOf.l0] at h
 | k + 1 => by
  have ih0 := impl_EntryOf.mono_l k
  ·intro y0 y1 y2 y3
   unfold impl_EntryOf.l0
   repeat' first | (with_reducible first | exact LeO.refl _ | exact LeO.none _ | refine LeO.ite ?_ ?_ | refine LeO.bind ?_ (fun _ => ?_) | apply ih0) | apply ih0 | exact LeO.none _ | refine LeO.ite ?_ ?_ | refine LeO.bind ?_ (fun _ => ?_)
theorem impl_EntryOf.mono : ∀ a0 a1 a2 k, LeO (impl_EntryOf.f k a0 a1 a2) (impl_EntryOf.f (k + 1) a0 a1 a2) := by
 intro a0 a1 a2 k; have ih0 := impl_EntryOf.mono_l k
 unfold impl_EntryOf.f
 repeat' first | (with_reducible first | exact LeO.refl _ | exact LeO.none _ | refine LeO.ite ?_ ?_ | refine LeO.bind ?_ (fun _ => ?_) | apply ih0) | apply ih0 | exact LeO.none _ | refine LeO.ite ?_ ?_ | refine LeO.bind ?_ (fun _ => ?_)
set_option maxHeartbeats 8000000 in
set_option maxRecDepth 100000 in
theorem impl_EntryOf.calls (k : Nat) (A0_0 : Option Addr) (c0_0 : Nat) (l0_0 : List (S68)) (A0_1 : Option Addr) (c0_1 : Nat) (l0_1 : List (S72)) (a1 : Int) (r1 : Int) (r2 : Int) (r3 : Int) (r4 : Int) (r5 : ByteArray) (r6 : Bool) (w : World) (hr0_0 : Kd.C k68 w A0_0 l0_0.length l0_0) (hc0_0 : l0_0.length ≤ c0_0) (hr0_1 : Kd.C k72 w A0_1 l0_1.length l0_1) (hc0_1 : l0_1.length ≤ c0_1) (h : impl_EntryOf.f k l0_0 l0_1 a1 = some (r1, r2, r3, r4, r5, r6)) :
  Calls Try.prog 78 #[.agg #[.slice A0_0 l0_0.length c0_0, .slice A0_1 l0_1.length c0_1], .int .i64 a1] w fun e w' => e = .returned (.tuple #[.agg #[.int .i64 r1, .int .i64 r2, .int .i64 r3, .int .i64 r4, .string r5], .bool r6]) ∧ Below w.heap.size w w' := by
 have hu32 := Try.underlying32; have hu66 := Try.underlying66; have hu68 := Try.underlying68; have HR0_0 := zm hr0_0; have HC0_0 := zm hc0_0; clear hr0_0 hc0_0; have HR0_1 := zm hr0_1; have HC0_1 := zm hc0_1; clear hr0_1 hc0_1; have HB := zm (Below.refl w.heap.size w); have H : (impl_EntryOf.l0 k a1 l0_0 (l0_0.length : Int) 0) = some (r1, r2, r3, r4, r5, r6) := h; clear h
 have H' := zm H
 clear H; go_enter Try.func78, Try.ntmps78
 go_wp2_with (first | ((with_reducible refine gate_dst (N := 2) rfl ?_); refine zbox 2 #[.slice A0_0 l0_0.length c0_0, .slice A0_1 l0_1.length c0_1] 32 ?_; intro gb289 hg w3 hbox hb; have BK289 := zm (hbox); have GW289 := zge w hg zB; have GE289 := zge w hg zB; replace HB := zm (below_step zB hb); clear hb hbox hg) | ((with_reducible refine gate_dst (N := 4) rfl ?_); refine zbox 4 #[.int .i64 0, .int .i64 0, .int .i64 0, .int .i64 0, .string (⟨#[]⟩ : ByteArray)] 66 ?_; intro gb290 hg w4 hbox hb; have BK290 := zm (hbox); have GW290 := zge w hg zB; have GE290 := zge w hg zB; replace HB := zm (below_step zB hb); have NB289_290 := zlt hg (zb BK289); have NB290_289 := zgt hg (zb BK289); replace BK289 := zy BK289 hb; clear hb hbox hg; have hnb5 := NB289_290.out; have hnc5 := NB290_289.out; obtain ⟨hcz6_0, hcz6_1, hfz6_0, hfz6_1⟩ := zc2 BK289))
 go_loopg [11] k (fun kq v11 w' => ∃ (x11_1 : Int) (x291000_1 : Int) (x291001_1 : Int) (x291002_1 : Int) (x291003_1 : Int) (x291004_1 : ByteArray), v11 = .int .i64 x11_1 ∧ Aside0 (impl_EntryOf.l0 kq a1 l0_0 (l0_0.length : Int) x11_1 = some (r1, r2, r3, r4, r5, r6)) ∧ Aside0 (kq ≤ k) ∧ Aside0 (w'.heap[gb289]? = some (.cells #[(.slice A0_0 l0_0.length c0_0), (.slice A0_1 l0_1.length c0_1)] 32 (0, 0))) ∧ Aside0 (w'.heap[gb290]? = some (.cells #[.int .i64 x291000_1, .int .i64 x291001_1, .int .i64 x291002_1, .int .i64 x291003_1, .string x291004_1] 66 (0, 0))) ∧ Aside0 (Below w.heap.size w w'))
 case atStart => exact ⟨(0), (0), (0), (0), (0), ((⟨#[]⟩ : ByteArray)), zF, H', ⟨Nat.le_refl _⟩, ⟨zb BK289⟩, ⟨zb BK290⟩, ⟨zB⟩⟩
 case round =>
  clear H'; (try clear hcz6_0); (try clear hcz6_1); (try clear hfz6_0); (try clear hfz6_1); obtain ⟨x11_1, x291000_1, x291001_1, x291002_1, x291003_1, x291004_1, rfl, HA, HK1, BK289, BK290, HB⟩ := hrel
  cases gk with
  | zero => exact absurd HA.out (by simp [impl_EntryOf.l0])
  | succ k1 =>
   have H := HA.out; clear HA; simp only [impl_EntryOf.l0] at H
   by_cases c7 : x11_1 < (l0_0.length : Int)
   ·rw [if_pos c7] at H; have c7b0 : decide (x11_1 < (l0_0.length : Int)) = true := decide_eq_true c7; clear c7
    by_cases c8 : 0 ≤ x11_1
    ·rw [if_pos c8] at H; have c8b0 : decide (0 ≤ x11_1) = true := decide_eq_true c8; clear c8
     by_cases c9 : x11_1 < (l0_0.length : Int)
     ·rw [if_pos c9] at H; have c9b0 : decide (x11_1 < (l0_0.length : Int)) = true := decide_eq_true c9; clear c9
      by_cases c10 : ((rd_T68 l0_0 x11_1).f0) = a1
      ·rw [if_pos c10] at H; have c10b0 : (((rd_T68 l0_0 x11_1).f0) == a1) = true := beq_iff_eq.mpr c10; have c10b1 : (((rd_T68 l0_0 x11_1).f0) != a1) = false := bne_eq_false_iff_eq.mpr c10; clear c10; simp only [Option.some.injEq, Prod.mk.injEq] at H; obtain ⟨rfl, rfl, rfl, rfl, rfl, rfl⟩ := H; have p291 : 0 ≤ (x11_1 : Int) := zd; have q291 : x11_1 < (l0_0.length : Int) := zd; obtain ⟨ad291, e291, hx291_0, hx291_1, hx291_2, hx291_3, hx291_4, hx291_5⟩ := at_T68 (Kd.C_below HR0_0.out HB.out) x11_1 p291 q291; cases e291; replace p291 := eq_true p291; replace q291 := eq_true q291
       go_wp2_with (first | ((with_reducible refine gate_dst (N := 7) rfl ?_); refine zbox 7 #[.int .i64 0, .int .i64 0, .int .i64 0, .int .i64 0, .int .i64 0, .string (⟨#[]⟩ : ByteArray)] 68 ?_; intro gb292 hg w11 hbox hb; have BK292 := zm (hbox); have GW292 := zge w hg zB; have GE292 := zge w hg zB; replace HB := zm (below_step zB hb); have NB289_292 := zlt hg (zb BK289); have NB292_289 := zgt hg (zb BK289); replace BK289 := zy BK289 hb; have NB290_292 := zlt hg (zb BK290); have NB292_290 := zgt hg (zb BK290); replace BK290 := zy BK290 hb; clear hb hbox hg; have hnb12 := NB292_289.out; have hnc12 := NB289_292.out; have hnb13 := NB292_290.out; have hnc13 := NB290_292.out; obtain ⟨hcz14_0, hcz14_1, hcz14_2, hcz14_3, hcz14_4, hcz14_5, hfz14_0, hfz14_1, hfz14_2, hfz14_3, hfz14_4, hfz14_5⟩ := zc6 BK292; have hnb15 := NB290_289.out; have hnc15 := NB289_290.out; obtain ⟨hcz16_0, hcz16_1, hcz16_2, hcz16_3, hcz16_4, hfz16_0, hfz16_1, hfz16_2, hfz16_3, hfz16_4⟩ := zc5 BK290))
       refine bodyPost_ret (results_ct rfl _ _ gb290 66 #[.int .i64 ((rd_T68 l0_0 x11_1).f1.f0), .int .i64 ((rd_T68 l0_0 x11_1).f1.f1), .int .i64 ((rd_T68 l0_0 x11_1).f1.f2), .int .i64 ((rd_T68 l0_0 x11_1).f1.f3), .string ((rd_T68 l0_0 x11_1).f1.f4)] (0, 0) _ rfl (zput (zput (zput (zput (zput (zfar (zfar (zfar (zfar (zfar (zfar (zb BK290) NB290_292) NB290_292) NB290_292) NB290_292) NB290_292) NB290_292) 0) 1) 2) 3) 4) Try.underlying66 rfl (by kernel_rfl)) rfl ?_
       exact ⟨zE, zB⟩
      ·rw [if_neg c10] at H; have c10b0 : (((rd_T68 l0_0 x11_1).f0) == a1) = false := beq_eq_false_iff_ne.mpr c10; have c10b1 : (((rd_T68 l0_0 x11_1).f0) != a1) = true := bne_iff_ne.mpr c10
       have H' := zm H
       clear H; have p291 : 0 ≤ (x11_1 : Int) := zd; have q291 : x11_1 < (l0_0.length : Int) := zd; obtain ⟨ad291, e291, hx291_0, hx291_1, hx291_2, hx291_3, hx291_4, hx291_5⟩ := at_T68 (Kd.C_below HR0_0.out HB.out) x11_1 p291 q291; cases e291; replace p291 := eq_true p291; replace q291 := eq_true q291
       go_wp2_with (first | ((with_reducible refine gate_dst (N := 7) rfl ?_); refine zbox 7 #[.int .i64 0, .int .i64 0, .int .i64 0, .int .i64 0, .int .i64 0, .string (⟨#[]⟩ : ByteArray)] 68 ?_; intro gb292 hg w17 hbox hb; have BK292 := zm (hbox); have GW292 := zge w hg zB; have GE292 := zge w hg zB; replace HB := zm (below_step zB hb); have NB289_292 := zlt hg (zb BK289); have NB292_289 := zgt hg (zb BK289); replace BK289 := zy BK289 hb; have NB290_292 := zlt hg (zb BK290); have NB292_290 := zgt hg (zb BK290); replace BK290 := zy BK290 hb; clear hb hbox hg; have hnb18 := NB292_289.out; have hnc18 := NB289_292.out; have hnb19 := NB292_290.out; have hnc19 := NB290_292.out; obtain ⟨hcz20_0, hcz20_1, hcz20_2, hcz20_3, hcz20_4, hcz20_5, hfz20_0, hfz20_1, hfz20_2, hfz20_3, hfz20_4, hfz20_5⟩ := zc6 BK292))
       go_roundg k1
       case measure => have := HK1.out; omega
       case rel => exact ⟨(wrap64 (x11_1 + 1)), (x291000_1), (x291001_1), (x291002_1), (x291003_1), (x291004_1), zF, H', ⟨by have := HK1.out; omega⟩, ⟨zfar (zfar (zfar (zfar (zfar (zfar (zb BK289) NB289_292) NB289_292) NB289_292) NB289_292) NB289_292) NB289_292⟩, ⟨zfar (zfar (zfar (zfar (zfar (zfar (zb BK290) NB290_292) NB290_292) NB290_292) NB290_292) NB290_292) NB290_292⟩, ⟨zB⟩⟩
     ·rw [if_neg c9] at H
      exact absurd H (by simp)
    ·rw [if_neg c8] at H
     exact absurd H (by simp)
   ·rw [if_neg c7] at H; have c7b0 : decide (x11_1 < (l0_0.length : Int)) = false := decide_eq_false c7; clear c7; simp only [Option.some.injEq, Prod.mk.injEq] at H; obtain ⟨rfl, rfl, rfl, rfl, rfl, rfl⟩ := H; have hnb21 := NB290_289.out; have hnc21 := NB289_290.out; obtain ⟨hcz22_0, hcz22_1, hcz22_2, hcz22_3, hcz22_4, hfz22_0, hfz22_1, hfz22_2, hfz22_3, hfz22_4⟩ := zc5 BK290
    go_wp2
    refine bodyPost_ret (results_ct rfl _ _ gb290 66 #[.int .i64 0, .int .i64 0, .int .i64 0, .int .i64 0, .string (⟨#[]⟩ : ByteArray)] (0, 0) _ rfl (zput (zput (zput (zput (zput (zb BK290) 0) 1) 2) 3) 4) Try.underlying66 rfl (by kernel_rfl)) rfl ?_
    exact ⟨zE, zB⟩

/-! ### cmp_Or_int: function 113 -/
def cmp_Or_int.l0 : Nat → Int → List Int → Int → Int → Option (Int)
 | 0, _, _, _, _ => none
 | k + 1, x3, x6, x7, x8 => if x8 < x7 then (if 0 ≤ x8 then (if x8 < (x6.length : Int) then (if (rd x6 x8) = x3 then (cmp_Or_int.l0 k x3 x6 x7 (wrap64 (x8 + 1))) else (some (rd x6 x8))) else (none)) else (none)) else (some x3)
def cmp_Or_int.f (k : Nat) (l0 : List Int) : Option (Int) := cmp_Or_int.l0 k 0 l0 (l0.length : Int) 0
theorem cmp_Or_int.mono_l : ∀ k, (∀ y0 y1 y2 y3, LeO (cmp_Or_int.l0 k y0 y1 y2 y3) (cmp_Or_int.l0 (k + 1) y0 y1 y2 y3))
 | 0 => fun _ _ _ _ r h => by simp [cmp_Or_int.l0] at h
 | k + 1 => by
  have ih0 := cmp_Or_int.mono_l k
  ·intro y0 y1 y2 y3
   unfold cmp_Or_int.l0
   repeat' first | (with_reducible first | exact LeO.refl _ | exact LeO.none _ | refine LeO.ite ?_ ?_ | refine LeO.bind ?_ (fun _ => ?_) | apply ih0) | apply ih0 | exact LeO.none _ | refine LeO.ite ?_ ?_ | refine LeO.bind ?_ (fun _ => ?_)
theorem cmp_Or_int.mono : ∀ a0 k, LeO (cmp_Or_int.f k a0) (cmp_Or_int.f (k + 1) a0) := by
 intro a0 k; have ih0 := cmp_Or_int.mono_l k
 unfold cmp_Or_int.f
 repeat' first | (with_reducible first | exact LeO.refl _ | exact LeO.none _ | refine LeO.ite ?_ ?_ | refine LeO.bind ?_ (fun _ => ?_) | apply ih0) | apply ih0 | exact LeO.none _ | refine LeO.ite ?_ ?_ | refine LeO.bind ?_ (fun _ => ?_)
set_option maxHeartbeats 8000000 in
set_option maxRecDepth 100000 in
theorem cmp_Or_int.calls (k : Nat) (A0 : Option Addr) (c0 : Nat) (l0 : List Int) (r : Int) (w : World) (hr0 : Kd.C (Kd.int .i64) w A0 l0.length l0) (hc0 : l0.length ≤ c0) (h : cmp_Or_int.f k l0 = some r) :
  Calls Try.prog 113 #[.slice A0 l0.length c0] w fun e w' => e = .returned (.int .i64 r) ∧ Drawn0 w w' := by
 have HR0 := zm hr0; have HC0 := zm hc0; clear hr0 hc0; have H : (cmp_Or_int.l0 k 0 l0 (l0.length : Int) 0) = some r := h; clear h
 have H' := zm H
 clear H; go_enter Try.func113, Try.ntmps113
 go_wp2
 go_loopg [8] k (fun kq v8 w' => ∃ (x8_1 : Int), v8 = .int .i64 x8_1 ∧ Aside0 (cmp_Or_int.l0 kq 0 l0 (l0.length : Int) x8_1 = some r) ∧ Aside0 (kq ≤ k) ∧ Drawn0 w w')
 case atStart => exact ⟨(0), zF, H', ⟨Nat.le_refl _⟩, zD⟩
 case round =>
  clear H'; obtain ⟨x8_1, rfl, HA, HK1, ⟨m1, rfl⟩⟩ := hrel
  cases gk with
  | zero => exact absurd HA.out (by simp [cmp_Or_int.l0])
  | succ k1 =>
   have H := HA.out; clear HA; simp only [cmp_Or_int.l0] at H
   by_cases c2 : x8_1 < (l0.length : Int)
   ·rw [if_pos c2] at H; have c2b0 : decide (x8_1 < (l0.length : Int)) = true := decide_eq_true c2; clear c2
    by_cases c3 : 0 ≤ x8_1
    ·rw [if_pos c3] at H; have c3b0 : decide (0 ≤ x8_1) = true := decide_eq_true c3; clear c3
     by_cases c4 : x8_1 < (l0.length : Int)
     ·rw [if_pos c4] at H; have c4b0 : decide (x8_1 < (l0.length : Int)) = true := decide_eq_true c4; clear c4
      by_cases c5 : (rd l0 x8_1) = 0
      ·rw [if_pos c5] at H; have c5b0 : ((rd l0 x8_1) == 0) = true := beq_iff_eq.mpr c5; have c5b1 : ((rd l0 x8_1) != 0) = false := bne_eq_false_iff_eq.mpr c5; clear c5
       have H' := zm H
       clear H; have p293 : 0 ≤ (x8_1 : Int) := zd; have q293 : x8_1 < (l0.length : Int) := zd; obtain ⟨ad293, e293, hx293_0⟩ := Kd.at_int HR0.out x8_1 p293 q293; cases e293; replace p293 := eq_true p293; replace q293 := eq_true q293
       go_wp2
       go_roundg k1
       case measure => have := HK1.out; omega
       case rel => exact ⟨(wrap64 (x8_1 + 1)), zF, H', ⟨by have := HK1.out; omega⟩, zD⟩
      ·rw [if_neg c5] at H; have c5b0 : ((rd l0 x8_1) == 0) = false := beq_eq_false_iff_ne.mpr c5; have c5b1 : ((rd l0 x8_1) != 0) = true := bne_iff_ne.mpr c5; obtain rfl := Option.some.inj H; have p293 : 0 ≤ (x8_1 : Int) := zd; have q293 : x8_1 < (l0.length : Int) := zd; obtain ⟨ad293, e293, hx293_0⟩ := Kd.at_int HR0.out x8_1 p293 q293; cases e293; replace p293 := eq_true p293; replace q293 := eq_true q293
       go_wp2
       go_ret
       exact ⟨zF, zD⟩
     ·rw [if_neg c4] at H
      exact absurd H (by simp)
    ·rw [if_neg c3] at H
     exact absurd H (by simp)
   ·rw [if_neg c2] at H; have c2b0 : decide (x8_1 < (l0.length : Int)) = false := decide_eq_false c2; clear c2; obtain rfl := Option.some.inj H
    go_wp2
    go_ret
    exact ⟨zF, zD⟩

/-! ### cmp_isNaN_int: function 116 -/
def cmp_isNaN_int.f (a0 : Int) : Option (Bool) := some (a0 != a0)
set_option maxHeartbeats 8000000 in
set_option maxRecDepth 100000 in
theorem cmp_isNaN_int.calls (a0 : Int) (r : Bool) (w : World) (h : cmp_isNaN_int.f a0 = some r) :
  Calls Try.prog 116 #[.int .i64 a0] w fun e w' => e = .returned (.bool r) ∧ Drawn0 w w' := by
 have H : (some (a0 != a0)) = some r := h; clear h; obtain rfl := Option.some.inj H; go_enter Try.func116, Try.ntmps116
 go_wp2
 go_ret
 exact ⟨zF, zD⟩

/-! ### cmp_Compare_int: function 114 -/
def cmp_Compare_int.f (a0 : Int) (a1 : Int) : Option (Int) := (cmp_isNaN_int.f a0).bind fun t294 => ((cmp_isNaN_int.f a1).bind fun t295 => (if t294 = true then (if t295 = true then (some 0) else (some (-1))) else (if t295 = true then (some 1) else (if a0 < a1 then (some (-1)) else (if a0 > a1 then (some 1) else (some 0))))))
set_option maxHeartbeats 8000000 in
set_option maxRecDepth 100000 in
theorem cmp_Compare_int.calls (a0 : Int) (a1 : Int) (r : Int) (w : World) (h : cmp_Compare_int.f a0 a1 = some r) :
  Calls Try.prog 114 #[.int .i64 a0, .int .i64 a1] w fun e w' => e = .returned (.int .i64 r) ∧ Drawn0 w w' := by
 have H : ((cmp_isNaN_int.f a0).bind fun t294 => ((cmp_isNaN_int.f a1).bind fun t295 => (if t294 = true then (if t295 = true then (some 0) else (some (-1))) else (if t295 = true then (some 1) else (if a0 < a1 then (some (-1)) else (if a0 > a1 then (some 1) else (some 0))))))) = some r := h; clear h; replace H := Option.bind_eq_some_iff.mp H; obtain ⟨t294, A30, H⟩ := H; (try dsimp only at H); have A3 := zm A30; clear A30; replace H := Option.bind_eq_some_iff.mp H; obtain ⟨t295, A40, H⟩ := H; (try dsimp only at H); have A4 := zm A40; clear A40
 by_cases c5 : t294 = true
 ·subst c5; rw [if_pos rfl] at H
  by_cases c6 : t295 = true
  ·subst c6; rw [if_pos rfl] at H; obtain rfl := Option.some.inj H; go_enter Try.func114, Try.ntmps114
   go_wp2_with (first | ((with_reducible refine gate_callee (f := 116) rfl ?_); refine zg (some 8) #[.int .i64 a0] Try.func116 ?_; (with_reducible refine (cmp_isNaN_int.calls a0 true _ A3.out).mono ?_); rintro e w' ⟨rfl, ⟨nd, rfl⟩⟩; refine ⟨_, rfl, ?_⟩) | ((with_reducible refine gate_callee (f := 116) rfl ?_); refine zg (some 10) #[.int .i64 a1] Try.func116 ?_; (with_reducible refine (cmp_isNaN_int.calls a1 true _ A4.out).mono ?_); rintro e w' ⟨rfl, ⟨nd, rfl⟩⟩; refine ⟨_, rfl, ?_⟩))
   go_ret
   exact ⟨zF, zD⟩
  ·replace c6 := Bool.eq_false_iff.mpr c6; subst c6; rw [zff] at H; obtain rfl := Option.some.inj H; go_enter Try.func114, Try.ntmps114
   go_wp2_with (first | ((with_reducible refine gate_callee (f := 116) rfl ?_); refine zg (some 8) #[.int .i64 a0] Try.func116 ?_; (with_reducible refine (cmp_isNaN_int.calls a0 true _ A3.out).mono ?_); rintro e w' ⟨rfl, ⟨nd, rfl⟩⟩; refine ⟨_, rfl, ?_⟩) | ((with_reducible refine gate_callee (f := 116) rfl ?_); refine zg (some 10) #[.int .i64 a1] Try.func116 ?_; (with_reducible refine (cmp_isNaN_int.calls a1 false _ A4.out).mono ?_); rintro e w' ⟨rfl, ⟨nd, rfl⟩⟩; refine ⟨_, rfl, ?_⟩))
   go_ret
   exact ⟨zF, zD⟩
 ·replace c5 := Bool.eq_false_iff.mpr c5; subst c5; rw [zff] at H
  by_cases c7 : t295 = true
  ·subst c7; rw [if_pos rfl] at H; obtain rfl := Option.some.inj H; go_enter Try.func114, Try.ntmps114
   go_wp2_with (first | ((with_reducible refine gate_callee (f := 116) rfl ?_); refine zg (some 8) #[.int .i64 a0] Try.func116 ?_; (with_reducible refine (cmp_isNaN_int.calls a0 false _ A3.out).mono ?_); rintro e w' ⟨rfl, ⟨nd, rfl⟩⟩; refine ⟨_, rfl, ?_⟩) | ((with_reducible refine gate_callee (f := 116) rfl ?_); refine zg (some 10) #[.int .i64 a1] Try.func116 ?_; (with_reducible refine (cmp_isNaN_int.calls a1 true _ A4.out).mono ?_); rintro e w' ⟨rfl, ⟨nd, rfl⟩⟩; refine ⟨_, rfl, ?_⟩))
   go_ret
   exact ⟨zF, zD⟩
  ·replace c7 := Bool.eq_false_iff.mpr c7; subst c7; rw [zff] at H
   by_cases c8 : a0 < a1
   ·rw [if_pos c8] at H; have c8b0 : decide (a0 < a1) = true := decide_eq_true c8; clear c8; obtain rfl := Option.some.inj H; go_enter Try.func114, Try.ntmps114
    go_wp2_with (first | ((with_reducible refine gate_callee (f := 116) rfl ?_); refine zg (some 8) #[.int .i64 a0] Try.func116 ?_; (with_reducible refine (cmp_isNaN_int.calls a0 false _ A3.out).mono ?_); rintro e w' ⟨rfl, ⟨nd, rfl⟩⟩; refine ⟨_, rfl, ?_⟩) | ((with_reducible refine gate_callee (f := 116) rfl ?_); refine zg (some 10) #[.int .i64 a1] Try.func116 ?_; (with_reducible refine (cmp_isNaN_int.calls a1 false _ A4.out).mono ?_); rintro e w' ⟨rfl, ⟨nd, rfl⟩⟩; refine ⟨_, rfl, ?_⟩))
    go_ret
    exact ⟨zF, zD⟩
   ·rw [if_neg c8] at H; have c8b0 : decide (a0 < a1) = false := decide_eq_false c8; clear c8
    by_cases c9 : a0 > a1
    ·rw [if_pos c9] at H; have c9b0 : decide (a1 < a0) = true := decide_eq_true c9; clear c9; obtain rfl := Option.some.inj H; go_enter Try.func114, Try.ntmps114
     go_wp2_with (first | ((with_reducible refine gate_callee (f := 116) rfl ?_); refine zg (some 8) #[.int .i64 a0] Try.func116 ?_; (with_reducible refine (cmp_isNaN_int.calls a0 false _ A3.out).mono ?_); rintro e w' ⟨rfl, ⟨nd, rfl⟩⟩; refine ⟨_, rfl, ?_⟩) | ((with_reducible refine gate_callee (f := 116) rfl ?_); refine zg (some 10) #[.int .i64 a1] Try.func116 ?_; (with_reducible refine (cmp_isNaN_int.calls a1 false _ A4.out).mono ?_); rintro e w' ⟨rfl, ⟨nd, rfl⟩⟩; refine ⟨_, rfl, ?_⟩))
     go_ret
     exact ⟨zF, zD⟩
    ·rw [if_neg c9] at H; have c9b0 : decide (a1 < a0) = false := decide_eq_false c9; clear c9; obtain rfl := Option.some.inj H; go_enter Try.func114, Try.ntmps114
     go_wp2_with (first | ((with_reducible refine gate_callee (f := 116) rfl ?_); refine zg (some 8) #[.int .i64 a0] Try.func116 ?_; (with_reducible refine (cmp_isNaN_int.calls a0 false _ A3.out).mono ?_); rintro e w' ⟨rfl, ⟨nd, rfl⟩⟩; refine ⟨_, rfl, ?_⟩) | ((with_reducible refine gate_callee (f := 116) rfl ?_); refine zg (some 10) #[.int .i64 a1] Try.func116 ?_; (with_reducible refine (cmp_isNaN_int.calls a1 false _ A4.out).mono ?_); rintro e w' ⟨rfl, ⟨nd, rfl⟩⟩; refine ⟨_, rfl, ?_⟩))
     go_ret
     exact ⟨zF, zD⟩

/-! ### strings_Compare: function 115 -/
def strings_Compare.f (a0 : ByteArray) (a1 : ByteArray) : Option (Int) := some (Lib.compareBytes a0.data.toList a1.data.toList)
theorem strings_Compare.calls (a0 : ByteArray) (a1 : ByteArray) (r : Int) (w : World) (h : strings_Compare.f a0 a1 = some r) :
  Calls Try.prog 115 #[.string a0, .string a1] w fun e w' => e = .returned (.int .i64 r) ∧ Drawn0 w w' := by
 refine (Go.Proofs.Ytgapdegniepjiaa.HandCmp.strings_Compare a0 a1 w).mono ?_
 rintro e w' ⟨rfl, rfl⟩
 exact ⟨by rw [Option.some.inj h], Drawn0.refl _⟩

/-! ### impl_EntryCmp: function 106 -/
def impl_EntryCmp.f (k : Nat) (a0_0 : Int) (a0_1 : Int) (a0_2 : Int) (a0_3 : Int) (a0_4 : ByteArray) (a1_0 : Int) (a1_1 : Int) (a1_2 : Int) (a1_3 : Int) (a1_4 : ByteArray) : Option (Int) := (cmp_Compare_int.f a0_0 a1_0).bind fun t298 => ((cmp_Compare_int.f a0_1 a1_1).bind fun t299 => ((cmp_Compare_int.f a0_2 a1_2).bind fun t300 => ((cmp_Compare_int.f a0_3 a1_3).bind fun t301 => ((strings_Compare.f a0_4 a1_4).bind fun t302 => ((cmp_Or_int.f k (([t298, t299, t300, t301, t302] : List Int))).bind fun t306 => (some t306))))))
theorem impl_EntryCmp.mono : ∀ a0 a1 a2 a3 a4 a5 a6 a7 a8 a9 k, LeO (impl_EntryCmp.f k a0 a1 a2 a3 a4 a5 a6 a7 a8 a9) (impl_EntryCmp.f (k + 1) a0 a1 a2 a3 a4 a5 a6 a7 a8 a9) := by
 intro a0 a1 a2 a3 a4 a5 a6 a7 a8 a9 k
 unfold impl_EntryCmp.f
 repeat' first | (with_reducible first | exact LeO.refl _ | exact LeO.none _ | refine LeO.ite ?_ ?_ | refine LeO.bind ?_ (fun _ => ?_) | apply cmp_Or_int.mono) | apply cmp_Or_int.mono | exact LeO.none _ | refine LeO.ite ?_ ?_ | refine LeO.bind ?_ (fun _ => ?_)
def impl_EntryCmp.T1 : Bool × List (List Nat × List Nat) := (true, [([], []), ([0], [0]), ([], []), ([2], [2]), ([1, 3], [1, 3]), ([], []), ([5], [5]), ([], []), ([7], [7]), ([6, 8, 4], [6, 8]), ([], []), ([10], [10]), ([], []), ([12], [12]), ([11, 13, 9], [11, 13]), ([], []), ([15], [15]), ([], []), ([17], [17]), ([16, 18, 14], [16, 18]), ([], []), ([20], [20]), ([], []), ([22], [22]), ([21, 23, 19], [21, 23]), ([4, 9, 14, 19, 24], [4, 9, 14, 19, 24]), ([25, 24], [25]), ([26, 26, 0, 1, 2, 3, 4, 5, 6, 7, 8, 9, 10, 11, 12, 13, 14, 15, 16, 17, 18, 19, 20, 21, 22, 23, 24, 25, 26], [26])])
def impl_EntryCmp.B1 : List Nat := [0, 1, 0, 4, 15, 0, 32, 0, 128, 511, 0, 1024, 0, 4096, 16383, 0, 32768, 0, 131072, 524287, 0, 1048576, 0, 4194304, 16777215, 33554431, 67108863, 134217727]
theorem impl_EntryCmp.tab1 : rtab .any (opsOf Try.f106 1) = impl_EntryCmp.T1 := by kernel_rfl
theorem impl_EntryCmp.bits1 : waitsOk impl_EntryCmp.T1.2 impl_EntryCmp.B1 = true := by kernel_rfl
set_option maxHeartbeats 8000000 in
set_option maxRecDepth 100000 in
theorem impl_EntryCmp.calls (k : Nat) (a0_0 : Int) (a0_1 : Int) (a0_2 : Int) (a0_3 : Int) (a0_4 : ByteArray) (a1_0 : Int) (a1_1 : Int) (a1_2 : Int) (a1_3 : Int) (a1_4 : ByteArray) (r : Int) (w : World) (h : impl_EntryCmp.f k a0_0 a0_1 a0_2 a0_3 a0_4 a1_0 a1_1 a1_2 a1_3 a1_4 = some r) :
  Calls Try.prog 106 #[.agg #[.int .i64 a0_0, .int .i64 a0_1, .int .i64 a0_2, .int .i64 a0_3, .string a0_4], .agg #[.int .i64 a1_0, .int .i64 a1_1, .int .i64 a1_2, .int .i64 a1_3, .string a1_4]] w fun e w' => e = .returned (.int .i64 r) ∧ Below w.heap.size w w' := by
 have hu66 := Try.underlying66; have HB := zm (Below.refl w.heap.size w); have H : ((cmp_Compare_int.f a0_0 a1_0).bind fun t298 => ((cmp_Compare_int.f a0_1 a1_1).bind fun t299 => ((cmp_Compare_int.f a0_2 a1_2).bind fun t300 => ((cmp_Compare_int.f a0_3 a1_3).bind fun t301 => ((strings_Compare.f a0_4 a1_4).bind fun t302 => ((cmp_Or_int.f k (([t298, t299, t300, t301, t302] : List Int))).bind fun t306 => (some t306))))))) = some r := h; clear h; replace H := Option.bind_eq_some_iff.mp H; obtain ⟨t298, A30, H⟩ := H; (try dsimp only at H); have A3 := zm A30; clear A30; replace H := Option.bind_eq_some_iff.mp H; obtain ⟨t299, A40, H⟩ := H; (try dsimp only at H); have A4 := zm A40; clear A40; replace H := Option.bind_eq_some_iff.mp H; obtain ⟨t300, A50, H⟩ := H; (try dsimp only at H); have A5 := zm A50; clear A50; replace H := Option.bind_eq_some_iff.mp H; obtain ⟨t301, A60, H⟩ := H; (try dsimp only at H); have A6 := zm A60; clear A60; replace H := Option.bind_eq_some_iff.mp H; obtain ⟨t302, A70, H⟩ := H; (try dsimp only at H); have A7 := zm A70; clear A70
 obtain ⟨y303, hy303⟩ : ∃ y_ : List Int, y_ = (([t298, t299, t300, t301, t302] : List Int)) := ⟨_, rfl⟩
 replace H : ((cmp_Or_int.f k y303).bind fun t306 => (some t306)) = some r := by first | (rw [hy303]; with_reducible exact H) | (have H2_ := (Option.bind_some _ _).symm.trans H; rw [hy303]; with_reducible exact H2_) | (have H2_ := (Option.bind_some _ _).symm.trans H; with_reducible exact H2_) | with_reducible exact H | (rw [hy303]; exact H) | exact H
 have Ny303 := zm hy303; clear hy303; replace H := Option.bind_eq_some_iff.mp H; obtain ⟨t306, A80, H⟩ := H; (try dsimp only at H); have A8 := zm A80; clear A80; obtain rfl := Option.some.inj H; go_enter Try.func106, Try.ntmps106
 try go_wp2_with (first | ((with_reducible refine gate_dst (N := 2) rfl ?_); refine zbox 2 #[.int .i64 a0_0, .int .i64 a0_1, .int .i64 a0_2, .int .i64 a0_3, .string a0_4] 66 ?_; intro gb296 hg w9 hbox hb; have BK296 := zm (hbox); have GW296 := zge w hg zB; have GE296 := zge w hg zB; replace HB := zm (below_step zB hb); clear hb hbox hg) | ((with_reducible refine gate_dst (N := 3) rfl ?_); refine zbox 3 #[.int .i64 a1_0, .int .i64 a1_1, .int .i64 a1_2, .int .i64 a1_3, .string a1_4] 66 ?_; intro gb297 hg w10 hbox hb; have BK297 := zm (hbox); have GW297 := zge w hg zB; have GE297 := zge w hg zB; replace HB := zm (below_step zB hb); have NB296_297 := zlt hg (zb BK296); have NB297_296 := zgt hg (zb BK296); replace BK296 := zy BK296 hb; clear hb hbox hg))
 replace BK296 := zq BK296; replace BK297 := zq BK297; replace HB := zm (below_drew1 HB.out)
 refine start_ (n := 28) (S := fun w' => w'.cell? ⟨gb296, 0, none⟩ = some (.int .i64 a0_0) ∧ w'.cell? ⟨gb296, 1, none⟩ = some (.int .i64 a0_1) ∧ w'.cell? ⟨gb296, 2, none⟩ = some (.int .i64 a0_2) ∧ w'.cell? ⟨gb296, 3, none⟩ = some (.int .i64 a0_3) ∧ w'.cell? ⟨gb296, 4, none⟩ = some (.string a0_4) ∧ w'.cell? ⟨gb297, 0, none⟩ = some (.int .i64 a1_0) ∧ w'.cell? ⟨gb297, 1, none⟩ = some (.int .i64 a1_1) ∧ w'.cell? ⟨gb297, 2, none⟩ = some (.int .i64 a1_2) ∧ w'.cell? ⟨gb297, 3, none⟩ = some (.int .i64 a1_3) ∧ w'.cell? ⟨gb297, 4, none⟩ = some (.string a1_4)) (ds := []) (zl 28 0) (by kernel_rfl) rfl rfl zS (fun hHeld => ?_); refine with_tabW impl_EntryCmp.tab1 impl_EntryCmp.bits1 (fun HT_ HW_ => ?_)
 generalize w10.drew = w11 at BK296 BK297 HB hHeld ⊢
 refine zu 0 5 28 1 ?_
 refine zu 2 7 28 5 ?_
 refine zu 5 10 28 37 ?_
 refine zu 7 12 28 165 ?_
 refine zu 10 15 28 1189 ?_
 refine zu 12 17 28 5285 ?_
 refine zu 15 20 28 38053 ?_
 refine zu 17 22 28 169125 ?_
 refine zu 20 25 28 1217701 ?_
 refine zu 22 27 28 5412005 ?_
 refine zv 1 6 28 5412007 ?_
 refine zv 3 8 28 5412015 ?_
 refine zv 6 11 28 5412079 ?_
 refine zv 8 13 28 5412335 ?_
 refine zv 11 16 28 5414383 ?_
 refine zv 13 18 28 5422575 ?_
 refine zv 16 21 28 5488111 ?_
 refine zv 18 23 28 5750255 ?_
 refine zv 21 26 28 7847407 ?_
 refine zv 23 28 28 16236015 ?_
 refine zo 4 (some 9) (zl 28 16236031) (fun K hK => ?_); refine zgo #[.int .i64 a0_0, .int .i64 a1_0] Try.func114 ?_; (with_reducible refine (cmp_Compare_int.calls a0_0 a1_0 t298 _ A3.out).mono ?_); rintro e w' ⟨rfl, ⟨nd, rfl⟩⟩; refine ⟨_, rfl, ?_⟩; refine hK.out _ _ zS (fun hHeld => ?_); clear hK K; refine zn ?_; refine zo 9 (some 14) (zl 28 16236543) (fun K hK => ?_); refine zgo #[.int .i64 a0_1, .int .i64 a1_1] Try.func114 ?_; (with_reducible refine (cmp_Compare_int.calls a0_1 a1_1 t299 _ A4.out).mono ?_); rintro e w' ⟨rfl, ⟨nd, rfl⟩⟩; refine ⟨_, rfl, ?_⟩; refine hK.out _ _ zS (fun hHeld => ?_); clear hK K; refine zn ?_; refine zo 14 (some 19) (zl 28 16252927) (fun K hK => ?_); refine zgo #[.int .i64 a0_2, .int .i64 a1_2] Try.func114 ?_; (with_reducible refine (cmp_Compare_int.calls a0_2 a1_2 t300 _ A5.out).mono ?_); rintro e w' ⟨rfl, ⟨nd, rfl⟩⟩; refine ⟨_, rfl, ?_⟩; refine hK.out _ _ zS (fun hHeld => ?_); clear hK K; refine zn ?_; refine zo 19 (some 24) (zl 28 16777215) (fun K hK => ?_); refine zgo #[.int .i64 a0_3, .int .i64 a1_3] Try.func114 ?_; (with_reducible refine (cmp_Compare_int.calls a0_3 a1_3 t301 _ A6.out).mono ?_); rintro e w' ⟨rfl, ⟨nd, rfl⟩⟩; refine ⟨_, rfl, ?_⟩; refine hK.out _ _ zS (fun hHeld => ?_); clear hK K; refine zn ?_; refine zo 24 (some 29) (zl 28 33554431) (fun K hK => ?_); refine zgo #[.string a0_4, .string a1_4] Try.func115 ?_; (with_reducible refine (strings_Compare.calls a0_4 a1_4 t302 _ A7.out).mono ?_); rintro e w' ⟨rfl, ⟨nd, rfl⟩⟩; refine ⟨_, rfl, ?_⟩
 refine hK.out _ _ zS (fun hHeld => ?_); clear hK K; refine zn ?_; refine zo 25 (some 30) (zl 28 67108863) (fun K hK => ?_)
 refine Kd.R_lit_step (Kd.int .i64) _ 3 ?hg (N := 30) ?hd (xs := ([t298, t299, t300, t301, t302] : List Int)) (inner := [.int .i64 t298, .int .i64 t299, .int .i64 t300, .int .i64 t301, .int .i64 t302]) (ok := fun _ => True) (okp := fun _ => True) ?hr ?hp (fun _ hk => hk) trivial (Below.refl _ _) (Nat.le_refl _) (by simp) ?_; (case hd => rfl); (case hg => rfl); (case hr => first | (go_simp; done) | (go_simp; rfl)); (case hp => exact (Reps.one (show Kd.M (Kd.int .i64) _ _ _ t298 [.int .i64 t298] from rfl) (Reps.one (show Kd.M (Kd.int .i64) _ _ _ t299 [.int .i64 t299] from rfl) (Reps.one (show Kd.M (Kd.int .i64) _ _ _ t300 [.int .i64 t300] from rfl) (Reps.one (show Kd.M (Kd.int .i64) _ _ _ t301 [.int .i64 t301] from rfl) (Reps.one (show Kd.M (Kd.int .i64) _ _ _ t302 [.int .i64 t302] from rfl) (Reps.none _ _)))))))
 intro v304 w12 ho13 hb hg_ hnew_; clear hg_ hnew_
 (first | rw [← Ny303.out] at ho13 | (simp only [Int.reduceToNat] at ho13; rw [← Ny303.out] at ho13))
 have HO305 := zm (Kd.R_lower ho13 (below_size zB)); replace BK296 := zy BK296 hb; replace BK297 := zy BK297 hb; replace HB := zm (below_step zB hb); clear hb ho13; obtain ⟨Ao14, co14, eo14⟩ := Kd.R_slice HO305.out
 (first | subst eo14 | (injection eo14 with f1_ f2_ f3_; have f4_ := f1_.symm; have f5_ := f3_.symm; clear f1_ f2_ f3_; subst f4_; subst f5_))
 refine hK.out _ _ zS (fun hHeld => ?_); clear hK K; refine zn (N := some 30) ?_; refine zo 26 (some 31) (zl 28 134217727) (fun K hK => ?_); refine zgo #[.slice Ao14 y303.length co14] Try.func113 ?_; (with_reducible refine (cmp_Or_int.calls k _ _ y303 t306 _ ?side1 ?side2 A8.out).mono ?_)
 (case side1 => repeat (first | exact (Kd.R_reads' HO305.out).2.2 | (with_reducible refine Kd.C_alloc ?_ _) | (with_reducible refine Kd.C_drewN ?_ _) | (with_reducible refine Kd.C_drew ?_)))
 (case side2 => exact (Kd.R_reads' HO305.out).2.1)
 rintro e w' ⟨rfl, ⟨nd, rfl⟩⟩; refine ⟨_, rfl, ?_⟩; refine hK.out _ _ zS (fun hHeld => ?_); clear hK K; refine zn ?_
 refine zu 27 4 28 268435455 ?_
 refine done_ (done_of HT_.out (by kernel_rfl)) ?_
 try go_wp2
 go_ret
 exact ⟨zE, zB⟩

end Go.Proofs.Ytgapdegniepjiaa.P
