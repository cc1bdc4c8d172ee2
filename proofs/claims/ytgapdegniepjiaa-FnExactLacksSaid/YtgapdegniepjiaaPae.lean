-- by a program of this session, for this seat
import Derived.Test.YtgapdegniepjiaaZ
import Derived.Test.YtgapdegniepjiaaP0
namespace Go.Proofs.Ytgapdegniepjiaa.P
open Go.RowKit Go.Proofs.YtgapdegniepjiaaW.PrintWords Go.Proofs.YtgapdegniepjiaaW.PrintLast Go.Proofs.YtgapdegniepjiaaW.PrintMore Go.Proofs.Ytgapdegniepjiaa.Z
attribute [local go_sem] max2_int min2_int max_two min_two max_three min_three max_four min_four   -- for this text's walks alone
set_option linter.unusedVariables false
set_option linter.unusedSimpArgs false

/-! ### spec_EntryOf: function 74 -/
def spec_EntryOf.l0 : Nat → Int → Int → List (S68) → List (S72) → Option (Int × Int × Int × Int × ByteArray × Bool)
 | 0, _, _, _, _ => none
 | k + 1, x1, x6, x221000, x221001 => if x6 < (x221000.length : Int) then (if 0 ≤ x6 then (if ((rd_T68 x221000 x6).f0) = x1 then (some ((rd_T68 x221000 x6).f1.f0, (rd_T68 x221000 x6).f1.f1, (rd_T68 x221000 x6).f1.f2, (rd_T68 x221000 x6).f1.f3, (rd_T68 x221000 x6).f1.f4, true)) else (spec_EntryOf.l0 k x1 (wrap64 (x6 + 1)) x221000 x221001)) else (none)) else (some (0, 0, 0, 0, (⟨#[]⟩ : ByteArray), false))
def spec_EntryOf.f (k : Nat) (l0_0 : List (S68)) (l0_1 : List (S72)) (a1 : Int) : Option (Int × Int × Int × Int × ByteArray × Bool) := spec_EntryOf.l0 k a1 0 l0_0 l0_1
theorem spec_EntryOf.mono_l : ∀ k, (∀ y0 y1 y2 y3, LeO (spec_EntryOf.l0 k y0 y1 y2 y3) (spec_EntryOf.l0 (k + 1) y0 y1 y2 y3))
 | 0 => fun _ _ _ _ r h => by simp [spec_EntryOf.l0] at h
 | k + 1 => by
  have ih0 := spec_EntryOf.mono_l k
  ·intro y0 y1 y2 y3
   unfold spec_EntryOf.l0
   repeat' first | (with_reducible first | exact LeO.refl _ | exact LeO.none _ | refine LeO.ite ?_ ?_ | refine LeO.bind ?_ (fun _ => ?_) | apply ih0) | apply ih0 | exact LeO.none _ | refine LeO.ite ?_ ?_ | refine LeO.bind ?_ (fun _ => ?_)
theorem spec_EntryOf.mono : ∀ a0 a1 a2 k, LeO (spec_EntryOf.f k a0 a1 a2) (spec_EntryOf.f (k + 1) a0 a1 a2) := by
 intro a0 a1 a2 k; have ih0 := spec_EntryOf.mono_l k
 unfold spec_EntryOf.f
 repeat' first | (with_reducible first | exact LeO.refl _ | exact LeO.none _ | refine LeO.ite ?_ ?_ | refine LeO.bind ?_ (fun _ => ?_) | apply ih0) | apply ih0 | exact LeO.none _ | refine LeO.ite ?_ ?_ | refine LeO.bind ?_ (fun _ => ?_)
set_option maxHeartbeats 8000000 in
set_option maxRecDepth 100000 in
theorem spec_EntryOf.calls (k : Nat) (A0_0 : Option Addr) (c0_0 : Nat) (l0_0 : List (S68)) (A0_1 : Option Addr) (c0_1 : Nat) (l0_1 : List (S72)) (a1 : Int) (r1 : Int) (r2 : Int) (r3 : Int) (r4 : Int) (r5 : ByteArray) (r6 : Bool) (w : World) (hr0_0 : Kd.C k68 w A0_0 l0_0.length l0_0) (hc0_0 : l0_0.length ≤ c0_0) (hr0_1 : Kd.C k72 w A0_1 l0_1.length l0_1) (hc0_1 : l0_1.length ≤ c0_1) (h : spec_EntryOf.f k l0_0 l0_1 a1 = some (r1, r2, r3, r4, r5, r6)) :
  Calls Try.prog 74 #[.agg #[.slice A0_0 l0_0.length c0_0, .slice A0_1 l0_1.length c0_1], .int .i64 a1] w fun e w' => e = .returned (.tuple #[.agg #[.int .i64 r1, .int .i64 r2, .int .i64 r3, .int .i64 r4, .string r5], .bool r6]) ∧ Below w.heap.size w w' := by
 have hu32 := Try.underlying32; have hu66 := Try.underlying66; have HR0_0 := zm hr0_0; have HC0_0 := zm hc0_0; clear hr0_0 hc0_0; have HR0_1 := zm hr0_1; have HC0_1 := zm hc0_1; clear hr0_1 hc0_1; have HB := zm (Below.refl w.heap.size w); have H : (spec_EntryOf.l0 k a1 0 l0_0 l0_1) = some (r1, r2, r3, r4, r5, r6) := h; clear h
 have H' := zm H
 clear H; go_enter Try.func74, Try.ntmps74
 go_wp2_with (first | ((with_reducible refine gate_dst (N := 2) rfl ?_); refine zbox 2 #[.slice A0_0 l0_0.length c0_0, .slice A0_1 l0_1.length c0_1] 32 ?_; intro gb220 hg w3 hbox hb; have BK220 := zm (hbox); have GW220 := zge w hg zB; have GE220 := zge w hg zB; replace HB := zm (below_step zB hb); clear hb hbox hg) | ((with_reducible refine gate_dst (N := 4) rfl ?_); refine zbox 4 #[.int .i64 0, .int .i64 0, .int .i64 0, .int .i64 0, .string (⟨#[]⟩ : ByteArray)] 66 ?_; intro gb221 hg w4 hbox hb; have BK221 := zm (hbox); have GW221 := zge w hg zB; have GE221 := zge w hg zB; replace HB := zm (below_step zB hb); have NB220_221 := zlt hg (zb BK220); have NB221_220 := zgt hg (zb BK220); replace BK220 := zy BK220 hb; clear hb hbox hg))
 go_loopg [6] k (fun kq v6 w' => ∃ (x6_1 : Int) (x222000_1 : Int) (x222001_1 : Int) (x222002_1 : Int) (x222003_1 : Int) (x222004_1 : ByteArray), v6 = .int .i64 x6_1 ∧ Aside0 (spec_EntryOf.l0 kq a1 x6_1 l0_0 l0_1 = some (r1, r2, r3, r4, r5, r6)) ∧ Aside0 (kq ≤ k) ∧ Aside0 (w'.heap[gb220]? = some (.cells #[(.slice A0_0 l0_0.length c0_0), (.slice A0_1 l0_1.length c0_1)] 32 (0, 0))) ∧ Aside0 (w'.heap[gb221]? = some (.cells #[.int .i64 x222000_1, .int .i64 x222001_1, .int .i64 x222002_1, .int .i64 x222003_1, .string x222004_1] 66 (0, 0))) ∧ Aside0 (Below w.heap.size w w'))
 case atStart => exact ⟨(0), (0), (0), (0), (0), ((⟨#[]⟩ : ByteArray)), zF, H', ⟨Nat.le_refl _⟩, ⟨zb BK220⟩, ⟨zb BK221⟩, ⟨zB⟩⟩
 case round =>
  clear H'; obtain ⟨x6_1, x222000_1, x222001_1, x222002_1, x222003_1, x222004_1, rfl, HA, HK1, BK220, BK221, HB⟩ := hrel
  cases gk with
  | zero => exact absurd HA.out (by simp [spec_EntryOf.l0])
  | succ k1 =>
   have H := HA.out; clear HA; simp only [spec_EntryOf.l0] at H
   by_cases c5 : x6_1 < (l0_0.length : Int)
   ·rw [if_pos c5] at H; have c5b0 : decide (x6_1 < (l0_0.length : Int)) = true := decide_eq_true c5; clear c5
    by_cases c6 : 0 ≤ x6_1
    ·rw [if_pos c6] at H; have c6b0 : decide (0 ≤ x6_1) = true := decide_eq_true c6; clear c6
     by_cases c7 : ((rd_T68 l0_0 x6_1).f0) = a1
     ·rw [if_pos c7] at H; have c7b0 : (((rd_T68 l0_0 x6_1).f0) == a1) = true := beq_iff_eq.mpr c7; have c7b1 : (((rd_T68 l0_0 x6_1).f0) != a1) = false := bne_eq_false_iff_eq.mpr c7; clear c7; simp only [Option.some.injEq, Prod.mk.injEq] at H; obtain ⟨rfl, rfl, rfl, rfl, rfl, rfl⟩ := H; have hnb8 := NB220_221.out; have hnc8 := NB221_220.out; obtain ⟨hcz9_0, hcz9_1, hfz9_0, hfz9_1⟩ := zc2 BK220; have p222 : 0 ≤ (x6_1 : Int) := zd; have q222 : x6_1 < (l0_0.length : Int) := zd; obtain ⟨ad222, e222, hx222_0, hx222_1, hx222_2, hx222_3, hx222_4, hx222_5⟩ := at_T68 (Kd.C_below HR0_0.out HB.out) x6_1 p222 q222; cases e222; replace p222 := eq_true p222; replace q222 := eq_true q222; have p223 : 0 ≤ (x6_1 : Int) := zd; have q223 : x6_1 < (l0_0.length : Int) := zd; obtain ⟨ad223, e223, hx223_0, hx223_1, hx223_2, hx223_3, hx223_4, hx223_5⟩ := at_T68 (Kd.C_below HR0_0.out HB.out) x6_1 p223 q223
      obtain rfl : ad222 = ad223 := (by injection e223)
      replace p223 := eq_true p223; replace q223 := eq_true q223; obtain ⟨hcz10_0, hcz10_1, hcz10_2, hcz10_3, hcz10_4, hfz10_0, hfz10_1, hfz10_2, hfz10_3, hfz10_4⟩ := zc5 BK221
      go_wp2
      refine bodyPost_ret (results_ct rfl _ _ gb221 66 #[.int .i64 ((rd_T68 l0_0 x6_1).f1.f0), .int .i64 ((rd_T68 l0_0 x6_1).f1.f1), .int .i64 ((rd_T68 l0_0 x6_1).f1.f2), .int .i64 ((rd_T68 l0_0 x6_1).f1.f3), .string ((rd_T68 l0_0 x6_1).f1.f4)] (0, 0) _ rfl (zput (zput (zput (zput (zput (zb BK221) 0) 1) 2) 3) 4) Try.underlying66 rfl (by kernel_rfl)) rfl ?_
      exact ⟨zE, zB⟩
     ·rw [if_neg c7] at H; have c7b0 : (((rd_T68 l0_0 x6_1).f0) == a1) = false := beq_eq_false_iff_ne.mpr c7; have c7b1 : (((rd_T68 l0_0 x6_1).f0) != a1) = true := bne_iff_ne.mpr c7
      have H' := zm H
      clear H; have hnb11 := NB220_221.out; have hnc11 := NB221_220.out; obtain ⟨hcz12_0, hcz12_1, hfz12_0, hfz12_1⟩ := zc2 BK220; have p222 : 0 ≤ (x6_1 : Int) := zd; have q222 : x6_1 < (l0_0.length : Int) := zd; obtain ⟨ad222, e222, hx222_0, hx222_1, hx222_2, hx222_3, hx222_4, hx222_5⟩ := at_T68 (Kd.C_below HR0_0.out HB.out) x6_1 p222 q222; cases e222; replace p222 := eq_true p222; replace q222 := eq_true q222
      go_wp2
      go_roundg k1
      case measure => have := HK1.out; omega
      case rel => exact ⟨(wrap64 (x6_1 + 1)), (x222000_1), (x222001_1), (x222002_1), (x222003_1), (x222004_1), zF, H', ⟨by have := HK1.out; omega⟩, ⟨zb BK220⟩, ⟨zb BK221⟩, ⟨zB⟩⟩
    ·rw [if_neg c6] at H
     exact absurd H (by simp)
   ·rw [if_neg c5] at H; have c5b0 : decide (x6_1 < (l0_0.length : Int)) = false := decide_eq_false c5; clear c5; simp only [Option.some.injEq, Prod.mk.injEq] at H; obtain ⟨rfl, rfl, rfl, rfl, rfl, rfl⟩ := H; have hnb13 := NB220_221.out; have hnc13 := NB221_220.out; obtain ⟨hcz14_0, hcz14_1, hfz14_0, hfz14_1⟩ := zc2 BK220; obtain ⟨hcz15_0, hcz15_1, hcz15_2, hcz15_3, hcz15_4, hfz15_0, hfz15_1, hfz15_2, hfz15_3, hfz15_4⟩ := zc5 BK221
    go_wp2
    refine bodyPost_ret (results_ct rfl _ _ gb221 66 #[.int .i64 0, .int .i64 0, .int .i64 0, .int .i64 0, .string (⟨#[]⟩ : ByteArray)] (0, 0) _ rfl (zput (zput (zput (zput (zput (zb BK221) 0) 1) 2) 3) 4) Try.underlying66 rfl (by kernel_rfl)) rfl ?_
    exact ⟨zE, zB⟩

/-! ### spec_l1Bit: function 105 -/
def spec_l1Bit.f (a0 : Bool) : Option (Int) := if a0 = true then (some 1) else (some 0)
set_option maxHeartbeats 8000000 in
set_option maxRecDepth 100000 in
theorem spec_l1Bit.calls (a0 : Bool) (r : Int) (w : World) (h : spec_l1Bit.f a0 = some r) :
  Calls Try.prog 105 #[.bool a0] w fun e w' => e = .returned (.int .i64 r) ∧ Drawn0 w w' := by
 have H : (if a0 = true then (some 1) else (some 0)) = some r := h; clear h
 by_cases c2 : a0 = true
 ·subst c2; rw [if_pos rfl] at H; obtain rfl := Option.some.inj H; go_enter Try.func105, Try.ntmps105
  go_wp2
  go_ret
  exact ⟨zF, zD⟩
 ·replace c2 := Bool.eq_false_iff.mpr c2; subst c2; rw [zff] at H; obtain rfl := Option.some.inj H; go_enter Try.func105, Try.ntmps105
  go_wp2
  go_ret
  exact ⟨zF, zD⟩

/-! ### spec_l2Cmp: function 104 -/
def spec_l2Cmp.f (a0 : Int) (a1 : Int) : Option (Int) := if a0 < a1 then (some (-1)) else ((spec_l1Bit.f (decide (a0 > a1))).bind fun t224 => (some t224))
set_option maxHeartbeats 8000000 in
set_option maxRecDepth 100000 in
theorem spec_l2Cmp.calls (a0 : Int) (a1 : Int) (r : Int) (w : World) (h : spec_l2Cmp.f a0 a1 = some r) :
  Calls Try.prog 104 #[.int .i64 a0, .int .i64 a1] w fun e w' => e = .returned (.int .i64 r) ∧ Drawn0 w w' := by
 have H : (if a0 < a1 then (some (-1)) else ((spec_l1Bit.f (decide (a0 > a1))).bind fun t224 => (some t224))) = some r := h; clear h
 by_cases c3 : a0 < a1
 ·rw [if_pos c3] at H; have c3b0 : decide (a0 < a1) = true := decide_eq_true c3; clear c3; obtain rfl := Option.some.inj H; go_enter Try.func104, Try.ntmps104
  go_wp2
  go_ret
  exact ⟨zF, zD⟩
 ·rw [if_neg c3] at H; have c3b0 : decide (a0 < a1) = false := decide_eq_false c3; clear c3; replace H := Option.bind_eq_some_iff.mp H; obtain ⟨t224, A40, H⟩ := H; (try dsimp only at H); have A4 := zm A40; clear A40; obtain rfl := Option.some.inj H; go_enter Try.func104, Try.ntmps104
  go_wp2_with (first | ((with_reducible refine gate_callee (f := 105) rfl ?_); refine zg (some 11) #[.bool (decide (a0 > a1))] Try.func105 ?_; (with_reducible refine (spec_l1Bit.calls (decide (a0 > a1)) t224 _ A4.out).mono ?_); rintro e w' ⟨rfl, ⟨nd, rfl⟩⟩; refine ⟨_, rfl, ?_⟩))
  go_ret
  exact ⟨zF, zD⟩

/-! ### spec_EntryCmp: function 79 -/
def spec_EntryCmp.l0 : Nat → List Int → Int → Int → Int → Int → Int → ByteArray → Int → Int → Int → Int → ByteArray → Option (Int)
 | 0, _, _, _, _, _, _, _, _, _, _, _, _ => none
 | k + 1, x5, x6, x226000, x226001, x226002, x226003, x226004, x227000, x227001, x227002, x227003, x227004 => if x6 < (x5.length : Int) then (if 0 ≤ x6 then (if (rd x5 x6) = 0 then (spec_EntryCmp.l0 k x5 (wrap64 (x6 + 1)) x226000 x226001 x226002 x226003 x226004 x227000 x227001 x227002 x227003 x227004) else (some (rd x5 x6))) else (none)) else (if (Op.bytesLess x226004.toList x227004.toList) = true then (some (-1)) else ((spec_l1Bit.f (!(x226004.toList == x227004.toList))).bind fun t236 => (some t236)))
def spec_EntryCmp.f (k : Nat) (a0_0 : Int) (a0_1 : Int) (a0_2 : Int) (a0_3 : Int) (a0_4 : ByteArray) (a1_0 : Int) (a1_1 : Int) (a1_2 : Int) (a1_3 : Int) (a1_4 : ByteArray) : Option (Int) := (spec_l2Cmp.f a0_0 a1_0).bind fun t227 => ((spec_l2Cmp.f a0_1 a1_1).bind fun t228 => ((spec_l2Cmp.f a0_2 a1_2).bind fun t229 => ((spec_l2Cmp.f a0_3 a1_3).bind fun t230 => (spec_EntryCmp.l0 k (([t227, t228, t229, t230] : List Int)) 0 a0_0 a0_1 a0_2 a0_3 a0_4 a1_0 a1_1 a1_2 a1_3 a1_4))))
theorem spec_EntryCmp.mono_l : ∀ k, (∀ y0 y1 y2 y3 y4 y5 y6 y7 y8 y9 y10 y11, LeO (spec_EntryCmp.l0 k y0 y1 y2 y3 y4 y5 y6 y7 y8 y9 y10 y11) (spec_EntryCmp.l0 (k + 1) y0 y1 y2 y3 y4 y5 y6 y7 y8 y9 y10 y11))
 | 0 => fun _ _ _ _ _ _ _ _ _ _ _ _ r h => by simp [spec_EntryCmp.l0] at h
 | k + 1 => by
  have ih0 := spec_EntryCmp.mono_l k
  ·intro y0 y1 y2 y3 y4 y5 y6 y7 y8 y9 y10 y11
   unfold spec_EntryCmp.l0
   repeat' first | (with_reducible first | exact LeO.refl _ | exact LeO.none _ | refine LeO.ite ?_ ?_ | refine LeO.bind ?_ (fun _ => ?_) | apply ih0) | apply ih0 | exact LeO.none _ | refine LeO.ite ?_ ?_ | refine LeO.bind ?_ (fun _ => ?_)
theorem spec_EntryCmp.mono : ∀ a0 a1 a2 a3 a4 a5 a6 a7 a8 a9 k, LeO (spec_EntryCmp.f k a0 a1 a2 a3 a4 a5 a6 a7 a8 a9) (spec_EntryCmp.f (k + 1) a0 a1 a2 a3 a4 a5 a6 a7 a8 a9) := by
 intro a0 a1 a2 a3 a4 a5 a6 a7 a8 a9 k; have ih0 := spec_EntryCmp.mono_l k
 unfold spec_EntryCmp.f
 repeat' first | (with_reducible first | exact LeO.refl _ | exact LeO.none _ | refine LeO.ite ?_ ?_ | refine LeO.bind ?_ (fun _ => ?_) | apply ih0) | apply ih0 | exact LeO.none _ | refine LeO.ite ?_ ?_ | refine LeO.bind ?_ (fun _ => ?_)
def spec_EntryCmp.T1 : Bool × List (List Nat × List Nat) := (true, [([], []), ([0], [0]), ([], []), ([2], [2]), ([1, 3], [1, 3]), ([], []), ([5], [5]), ([], []), ([7], [7]), ([6, 8, 4], [6, 8]), ([], []), ([10], [10]), ([], []), ([12], [12]), ([11, 13, 9], [11, 13]), ([], []), ([15], [15]), ([], []), ([17], [17]), ([16, 18, 14], [16, 18]), ([4, 9, 14, 19], [4, 9, 14, 19]), ([20, 19, 0, 1, 2, 3, 4, 5, 6, 7, 8, 9, 10, 11, 12, 13, 14, 15, 16, 17, 18, 19, 20], [20])])
def spec_EntryCmp.B1 : List Nat := [0, 1, 0, 4, 15, 0, 32, 0, 128, 511, 0, 1024, 0, 4096, 16383, 0, 32768, 0, 131072, 524287, 1048575, 2097151]
theorem spec_EntryCmp.tab1 : rtab .any (opsOf Try.f79 1) = spec_EntryCmp.T1 := by kernel_rfl
theorem spec_EntryCmp.bits1 : waitsOk spec_EntryCmp.T1.2 spec_EntryCmp.B1 = true := by kernel_rfl
set_option maxHeartbeats 8000000 in
set_option maxRecDepth 100000 in
theorem spec_EntryCmp.calls (k : Nat) (a0_0 : Int) (a0_1 : Int) (a0_2 : Int) (a0_3 : Int) (a0_4 : ByteArray) (a1_0 : Int) (a1_1 : Int) (a1_2 : Int) (a1_3 : Int) (a1_4 : ByteArray) (r : Int) (w : World) (h : spec_EntryCmp.f k a0_0 a0_1 a0_2 a0_3 a0_4 a1_0 a1_1 a1_2 a1_3 a1_4 = some r) :
  Calls Try.prog 79 #[.agg #[.int .i64 a0_0, .int .i64 a0_1, .int .i64 a0_2, .int .i64 a0_3, .string a0_4], .agg #[.int .i64 a1_0, .int .i64 a1_1, .int .i64 a1_2, .int .i64 a1_3, .string a1_4]] w fun e w' => e = .returned (.int .i64 r) ∧ Below w.heap.size w w' := by
 have hu66 := Try.underlying66; have HB := zm (Below.refl w.heap.size w); have H : ((spec_l2Cmp.f a0_0 a1_0).bind fun t227 => ((spec_l2Cmp.f a0_1 a1_1).bind fun t228 => ((spec_l2Cmp.f a0_2 a1_2).bind fun t229 => ((spec_l2Cmp.f a0_3 a1_3).bind fun t230 => (spec_EntryCmp.l0 k (([t227, t228, t229, t230] : List Int)) 0 a0_0 a0_1 a0_2 a0_3 a0_4 a1_0 a1_1 a1_2 a1_3 a1_4))))) = some r := h; clear h; replace H := Option.bind_eq_some_iff.mp H; obtain ⟨t227, A30, H⟩ := H; (try dsimp only at H); have A3 := zm A30; clear A30; replace H := Option.bind_eq_some_iff.mp H; obtain ⟨t228, A40, H⟩ := H; (try dsimp only at H); have A4 := zm A40; clear A40; replace H := Option.bind_eq_some_iff.mp H; obtain ⟨t229, A50, H⟩ := H; (try dsimp only at H); have A5 := zm A50; clear A50; replace H := Option.bind_eq_some_iff.mp H; obtain ⟨t230, A60, H⟩ := H; (try dsimp only at H); have A6 := zm A60; clear A60
 obtain ⟨y231, hy231⟩ : ∃ y_ : List Int, y_ = (([t227, t228, t229, t230] : List Int)) := ⟨_, rfl⟩
 replace H : (spec_EntryCmp.l0 k y231 0 a0_0 a0_1 a0_2 a0_3 a0_4 a1_0 a1_1 a1_2 a1_3 a1_4) = some r := by first | (rw [hy231]; with_reducible exact H) | (have H2_ := (Option.bind_some _ _).symm.trans H; rw [hy231]; with_reducible exact H2_) | (have H2_ := (Option.bind_some _ _).symm.trans H; with_reducible exact H2_) | with_reducible exact H | (rw [hy231]; exact H) | exact H
 have Ny231 := zm hy231; clear hy231
 have H' := zm H
 clear H; go_enter Try.func79, Try.ntmps79
 try go_wp2_with (first | ((with_reducible refine gate_dst (N := 2) rfl ?_); refine zbox 2 #[.int .i64 a0_0, .int .i64 a0_1, .int .i64 a0_2, .int .i64 a0_3, .string a0_4] 66 ?_; intro gb225 hg w7 hbox hb; have BK225 := zm (hbox); have GW225 := zge w hg zB; have GE225 := zge w hg zB; replace HB := zm (below_step zB hb); clear hb hbox hg) | ((with_reducible refine gate_dst (N := 3) rfl ?_); refine zbox 3 #[.int .i64 a1_0, .int .i64 a1_1, .int .i64 a1_2, .int .i64 a1_3, .string a1_4] 66 ?_; intro gb226 hg w8 hbox hb; have BK226 := zm (hbox); have GW226 := zge w hg zB; have GE226 := zge w hg zB; replace HB := zm (below_step zB hb); have NB225_226 := zlt hg (zb BK225); have NB226_225 := zgt hg (zb BK225); replace BK225 := zy BK225 hb; clear hb hbox hg))
 replace BK225 := zq BK225; replace BK226 := zq BK226; replace HB := zm (below_drew1 HB.out)
 refine start_ (n := 22) (S := fun w' => w'.cell? ⟨gb225, 0, none⟩ = some (.int .i64 a0_0) ∧ w'.cell? ⟨gb225, 1, none⟩ = some (.int .i64 a0_1) ∧ w'.cell? ⟨gb225, 2, none⟩ = some (.int .i64 a0_2) ∧ w'.cell? ⟨gb225, 3, none⟩ = some (.int .i64 a0_3) ∧ w'.cell? ⟨gb225, 4, none⟩ = some (.string a0_4) ∧ w'.cell? ⟨gb226, 0, none⟩ = some (.int .i64 a1_0) ∧ w'.cell? ⟨gb226, 1, none⟩ = some (.int .i64 a1_1) ∧ w'.cell? ⟨gb226, 2, none⟩ = some (.int .i64 a1_2) ∧ w'.cell? ⟨gb226, 3, none⟩ = some (.int .i64 a1_3) ∧ w'.cell? ⟨gb226, 4, none⟩ = some (.string a1_4)) (ds := []) (zl 22 0) (by kernel_rfl) rfl rfl zS (fun hHeld => ?_); refine with_tabW spec_EntryCmp.tab1 spec_EntryCmp.bits1 (fun HT_ HW_ => ?_)
 generalize w8.drew = w9 at BK225 BK226 HB hHeld ⊢
 refine zu 0 7 22 1 ?_
 refine zu 2 9 22 5 ?_
 refine zu 5 12 22 37 ?_
 refine zu 7 14 22 165 ?_
 refine zu 10 17 22 1189 ?_
 refine zu 12 19 22 5285 ?_
 refine zu 15 22 22 38053 ?_
 refine zu 17 24 22 169125 ?_
 refine zv 1 8 22 169127 ?_
 refine zv 3 10 22 169135 ?_
 refine zv 6 13 22 169199 ?_
 refine zv 8 15 22 169455 ?_
 refine zv 11 18 22 171503 ?_
 refine zv 13 20 22 179695 ?_
 refine zv 16 23 22 245231 ?_
 refine zv 18 25 22 507375 ?_
 refine zo 4 (some 11) (zl 22 507391) (fun K hK => ?_); refine zgo #[.int .i64 a0_0, .int .i64 a1_0] Try.func104 ?_; (with_reducible refine (spec_l2Cmp.calls a0_0 a1_0 t227 _ A3.out).mono ?_); rintro e w' ⟨rfl, ⟨nd, rfl⟩⟩; refine ⟨_, rfl, ?_⟩; refine hK.out _ _ zS (fun hHeld => ?_); clear hK K; refine zn ?_; refine zo 9 (some 16) (zl 22 507903) (fun K hK => ?_); refine zgo #[.int .i64 a0_1, .int .i64 a1_1] Try.func104 ?_; (with_reducible refine (spec_l2Cmp.calls a0_1 a1_1 t228 _ A4.out).mono ?_); rintro e w' ⟨rfl, ⟨nd, rfl⟩⟩; refine ⟨_, rfl, ?_⟩; refine hK.out _ _ zS (fun hHeld => ?_); clear hK K; refine zn ?_; refine zo 14 (some 21) (zl 22 524287) (fun K hK => ?_); refine zgo #[.int .i64 a0_2, .int .i64 a1_2] Try.func104 ?_; (with_reducible refine (spec_l2Cmp.calls a0_2 a1_2 t229 _ A5.out).mono ?_); rintro e w' ⟨rfl, ⟨nd, rfl⟩⟩; refine ⟨_, rfl, ?_⟩; refine hK.out _ _ zS (fun hHeld => ?_); clear hK K; refine zn ?_; refine zo 19 (some 26) (zl 22 1048575) (fun K hK => ?_); refine zgo #[.int .i64 a0_3, .int .i64 a1_3] Try.func104 ?_; (with_reducible refine (spec_l2Cmp.calls a0_3 a1_3 t230 _ A6.out).mono ?_); rintro e w' ⟨rfl, ⟨nd, rfl⟩⟩; refine ⟨_, rfl, ?_⟩; refine hK.out _ _ zS (fun hHeld => ?_); clear hK K; refine zn ?_; refine zo 20 (some 27) (zl 22 2097151) (fun K hK => ?_)
 refine Kd.R_lit_step (Kd.int .i64) _ 3 ?hg (N := 27) ?hd (xs := ([t227, t228, t229, t230] : List Int)) (inner := [.int .i64 t227, .int .i64 t228, .int .i64 t229, .int .i64 t230]) (ok := fun _ => True) (okp := fun _ => True) ?hr ?hp (fun _ hk => hk) trivial (Below.refl _ _) (Nat.le_refl _) (by simp) ?_; (case hd => rfl); (case hg => rfl); (case hr => first | (go_simp; done) | (go_simp; rfl)); (case hp => exact (Reps.one (show Kd.M (Kd.int .i64) _ _ _ t227 [.int .i64 t227] from rfl) (Reps.one (show Kd.M (Kd.int .i64) _ _ _ t228 [.int .i64 t228] from rfl) (Reps.one (show Kd.M (Kd.int .i64) _ _ _ t229 [.int .i64 t229] from rfl) (Reps.one (show Kd.M (Kd.int .i64) _ _ _ t230 [.int .i64 t230] from rfl) (Reps.none _ _))))))
 intro v232 w10 ho11 hb hg_ hnew_; clear hg_ hnew_
 (first | rw [← Ny231.out] at ho11 | (simp only [Int.reduceToNat] at ho11; rw [← Ny231.out] at ho11))
 have HO233 := zm (Kd.R_lower ho11 (below_size zB)); replace BK225 := zy BK225 hb; replace BK226 := zy BK226 hb; replace HB := zm (below_step zB hb); clear hb ho11; refine hK.out _ _ zS (fun hHeld => ?_); clear hK K; refine zn (N := some 27) ?_
 refine zu 21 5 22 4194303 ?_
 refine done_ (done_of HT_.out (by kernel_rfl)) ?_
 try go_wp2
 go_loopg [6] k (fun kq v6 w' => ∃ (x6_1 : Int), v6 = .int .i64 x6_1 ∧ Aside0 (spec_EntryCmp.l0 kq y231 x6_1 a0_0 a0_1 a0_2 a0_3 a0_4 a1_0 a1_1 a1_2 a1_3 a1_4 = some r) ∧ Aside0 (kq ≤ k) ∧ Aside0 (Kd.R (Kd.int .i64) 3 w' w.heap.size (fun _ => True) v232 y231) ∧ Aside0 (w'.heap[gb225]? = some (.cells #[.int .i64 a0_0, .int .i64 a0_1, .int .i64 a0_2, .int .i64 a0_3, .string a0_4] 66 (0, 0))) ∧ Aside0 (w'.heap[gb226]? = some (.cells #[.int .i64 a1_0, .int .i64 a1_1, .int .i64 a1_2, .int .i64 a1_3, .string a1_4] 66 (0, 0))) ∧ Aside0 (Below w.heap.size w w'))
 case atStart => exact ⟨(0), zF, H', ⟨Nat.le_refl _⟩, ⟨zr HO233⟩, ⟨zb BK225⟩, ⟨zb BK226⟩, ⟨zB⟩⟩
 case round =>
  clear H'; obtain ⟨x6_1, rfl, HA, HK1, HO_5, BK225, BK226, HB⟩ := hrel
  cases gk with
  | zero => exact absurd HA.out (by simp [spec_EntryCmp.l0])
  | succ k1 =>
   have H := HA.out; clear HA; simp only [spec_EntryCmp.l0] at H
   by_cases c12 : x6_1 < (y231.length : Int)
   ·rw [if_pos c12] at H; have c12b0 : decide (x6_1 < (y231.length : Int)) = true := decide_eq_true c12; clear c12
    by_cases c13 : 0 ≤ x6_1
    ·rw [if_pos c13] at H; have c13b0 : decide (0 ≤ x6_1) = true := decide_eq_true c13; clear c13
     by_cases c14 : (rd y231 x6_1) = 0
     ·rw [if_pos c14] at H; have c14b0 : ((rd y231 x6_1) == 0) = true := beq_iff_eq.mpr c14; have c14b1 : ((rd y231 x6_1) != 0) = false := bne_eq_false_iff_eq.mpr c14; clear c14
      have H' := zm H
      clear H; obtain ⟨Ao15, co15, eo15⟩ := Kd.R_slice HO_5.out; subst eo15; have p234 : 0 ≤ (x6_1 : Int) := zd; have q234 : x6_1 < (y231.length : Int) := zd; obtain ⟨ad234, e234, hx234_0⟩ := Kd.at_int (Kd.R_reads' HO_5.out).2.2 x6_1 p234 q234; cases e234; replace p234 := eq_true p234; replace q234 := eq_true q234
      go_wp2
      go_roundg k1
      case measure => have := HK1.out; omega
      case rel => exact ⟨(wrap64 (x6_1 + 1)), zF, H', ⟨by have := HK1.out; omega⟩, ⟨zr HO_5⟩, ⟨zb BK225⟩, ⟨zb BK226⟩, ⟨zB⟩⟩
     ·rw [if_neg c14] at H; have c14b0 : ((rd y231 x6_1) == 0) = false := beq_eq_false_iff_ne.mpr c14; have c14b1 : ((rd y231 x6_1) != 0) = true := bne_iff_ne.mpr c14; obtain rfl := Option.some.inj H; obtain ⟨Ao16, co16, eo16⟩ := Kd.R_slice HO_5.out; subst eo16; have p234 : 0 ≤ (x6_1 : Int) := zd; have q234 : x6_1 < (y231.length : Int) := zd; obtain ⟨ad234, e234, hx234_0⟩ := Kd.at_int (Kd.R_reads' HO_5.out).2.2 x6_1 p234 q234; cases e234; replace p234 := eq_true p234; replace q234 := eq_true q234; have p235 : 0 ≤ (x6_1 : Int) := zd; have q235 : x6_1 < (y231.length : Int) := zd; obtain ⟨ad235, e235, hx235_0⟩ := Kd.at_int (Kd.R_reads' HO_5.out).2.2 x6_1 p235 q235
      obtain rfl : ad234 = ad235 := (by injection e235)
      replace p235 := eq_true p235; replace q235 := eq_true q235
      go_wp2
      go_ret
      exact ⟨zE, zB⟩
    ·rw [if_neg c13] at H
     exact absurd H (by simp)
   ·rw [if_neg c12] at H; have c12b0 : decide (x6_1 < (y231.length : Int)) = false := decide_eq_false c12; clear c12
    by_cases c17 : (Op.bytesLess a0_4.toList a1_4.toList) = true
    ·rw [if_pos c17] at H; have c17b0 : (Op.bytesLess a0_4.toList a1_4.toList) = true := c17; clear c17; obtain rfl := Option.some.inj H; obtain ⟨Ao18, co18, eo18⟩ := Kd.R_slice HO_5.out; subst eo18; have hnb19 := NB225_226.out; have hnc19 := NB226_225.out; obtain ⟨hcz20_0, hcz20_1, hcz20_2, hcz20_3, hcz20_4, hfz20_0, hfz20_1, hfz20_2, hfz20_3, hfz20_4⟩ := zc5 BK225; obtain ⟨hcz21_0, hcz21_1, hcz21_2, hcz21_3, hcz21_4, hfz21_0, hfz21_1, hfz21_2, hfz21_3, hfz21_4⟩ := zc5 BK226
     go_wp2
     go_ret
     exact ⟨zE, zB⟩
    ·rw [if_neg c17] at H
     have c17b0 : (Op.bytesLess a0_4.toList a1_4.toList) = false := by simpa using c17
     clear c17; replace H := Option.bind_eq_some_iff.mp H; obtain ⟨t236, A220, H⟩ := H; (try dsimp only at H); have A22 := zm A220; clear A220; obtain rfl := Option.some.inj H; obtain ⟨Ao23, co23, eo23⟩ := Kd.R_slice HO_5.out; subst eo23; have hnb24 := NB225_226.out; have hnc24 := NB226_225.out; obtain ⟨hcz25_0, hcz25_1, hcz25_2, hcz25_3, hcz25_4, hfz25_0, hfz25_1, hfz25_2, hfz25_3, hfz25_4⟩ := zc5 BK225; obtain ⟨hcz26_0, hcz26_1, hcz26_2, hcz26_3, hcz26_4, hfz26_0, hfz26_1, hfz26_2, hfz26_3, hfz26_4⟩ := zc5 BK226
     go_wp2_with (first | ((with_reducible refine gate_callee (f := 105) rfl ?_); refine zg (some 53) #[.bool (!(a0_4.toList == a1_4.toList))] Try.func105 ?_; (with_reducible refine (spec_l1Bit.calls (!(a0_4.toList == a1_4.toList)) t236 _ A22.out).mono ?_); rintro e w' ⟨rfl, ⟨nd, rfl⟩⟩; refine ⟨_, rfl, ?_⟩))
     go_ret
     exact ⟨zE, zB⟩

/-! ### impl_within: function 64 -/
def impl_within.f (a0 : Int) (a1 : Int) (a2 : Int) : Option (Bool) := if a0 ≥ a1 then (some (decide (a0 ≤ a2))) else (some false)
set_option maxHeartbeats 8000000 in
set_option maxRecDepth 100000 in
theorem impl_within.calls (a0 : Int) (a1 : Int) (a2 : Int) (r : Bool) (w : World) (h : impl_within.f a0 a1 a2 = some r) :
  Calls Try.prog 64 #[.int .i64 a0, .int .i64 a1, .int .i64 a2] w fun e w' => e = .returned (.bool r) ∧ Drawn0 w w' := by
 have H : (if a0 ≥ a1 then (some (decide (a0 ≤ a2))) else (some false)) = some r := h; clear h
 by_cases c4 : a0 ≥ a1
 ·rw [if_pos c4] at H; have c4b0 : decide (a1 ≤ a0) = true := decide_eq_true c4; clear c4; obtain rfl := Option.some.inj H; go_enter Try.func64, Try.ntmps64
  go_wp2
  go_ret
  exact ⟨zF, zD⟩
 ·rw [if_neg c4] at H; have c4b0 : decide (a1 ≤ a0) = false := decide_eq_false c4; clear c4; obtain rfl := Option.some.inj H; go_enter Try.func64, Try.ntmps64
  go_wp2
  go_ret
  exact ⟨zF, zD⟩

/-! ### impl_FloorOf: function 77 -/
def impl_FloorOf.l0 : Nat → Int → List (S72) → Int → Int → Option (Int)
 | 0, _, _, _, _ => none
 | k + 1, x1, x8, x9, x10 => if x10 < x9 then (if 0 ≤ x10 then (if x10 < (x8.length : Int) then (if ((rd_T72 x8 x10).f0) = x1 then (some ((rd_T72 x8 x10).f1)) else (impl_FloorOf.l0 k x1 x8 x9 (wrap64 (x10 + 1)))) else (none)) else (none)) else (some 0)
def impl_FloorOf.f (k : Nat) (l0_0 : List (S68)) (l0_1 : List (S72)) (a1 : Int) : Option (Int) := impl_FloorOf.l0 k a1 l0_1 (l0_1.length : Int) 0
theorem impl_FloorOf.mono_l : ∀ k, (∀ y0 y1 y2 y3, LeO (impl_FloorOf.l0 k y0 y1 y2 y3) (impl_FloorOf.l0 (k + 1) y0 y1 y2 y3))
 | 0 => fun _ _ _ _ r h => by simp [impl_FloorOf.l0] at h
 | k + 1 => by
  have ih0 := impl_FloorOf.mono_l k
  ·intro y0 y1 y2 y3
   unfold impl_FloorOf.l0
   repeat' first | (with_reducible first | exact LeO.refl _ | exact LeO.none _ | refine LeO.ite ?_ ?_ | refine LeO.bind ?_ (fun _ => ?_) | apply ih0) | apply ih0 | exact LeO.none _ | refine LeO.ite ?_ ?_ | refine LeO.bind ?_ (fun _ => ?_)
theorem impl_FloorOf.mono : ∀ a0 a1 a2 k, LeO (impl_FloorOf.f k a0 a1 a2) (impl_FloorOf.f (k + 1) a0 a1 a2) := by
 intro a0 a1 a2 k; have ih0 := impl_FloorOf.mono_l k
 unfold impl_FloorOf.f
 repeat' first | (with_reducible first | exact LeO.refl _ | exact LeO.none _ | refine LeO.ite ?_ ?_ | refine LeO.bind ?_ (fun _ => ?_) | apply ih0) | apply ih0 | exact LeO.none _ | refine LeO.ite ?_ ?_ | refine LeO.bind ?_ (fun _ => ?_)
set_option maxHeartbeats 8000000 in
set_option maxRecDepth 100000 in
theorem impl_FloorOf.calls (k : Nat) (A0_0 : Option Addr) (c0_0 : Nat) (l0_0 : List (S68)) (A0_1 : Option Addr) (c0_1 : Nat) (l0_1 : List (S72)) (a1 : Int) (r : Int) (w : World) (hr0_0 : Kd.C k68 w A0_0 l0_0.length l0_0) (hc0_0 : l0_0.length ≤ c0_0) (hr0_1 : Kd.C k72 w A0_1 l0_1.length l0_1) (hc0_1 : l0_1.length ≤ c0_1) (h : impl_FloorOf.f k l0_0 l0_1 a1 = some r) :
  Calls Try.prog 77 #[.agg #[.slice A0_0 l0_0.length c0_0, .slice A0_1 l0_1.length c0_1], .int .i64 a1] w fun e w' => e = .returned (.int .i64 r) ∧ Below w.heap.size w w' := by
 have hu32 := Try.underlying32; have hu72 := Try.underlying72; have HR0_0 := zm hr0_0; have HC0_0 := zm hc0_0; clear hr0_0 hc0_0; have HR0_1 := zm hr0_1; have HC0_1 := zm hc0_1; clear hr0_1 hc0_1; have HB := zm (Below.refl w.heap.size w); have H : (impl_FloorOf.l0 k a1 l0_1 (l0_1.length : Int) 0) = some r := h; clear h
 have H' := zm H
 clear H; go_enter Try.func77, Try.ntmps77
 go_wp2_with (first | ((with_reducible refine gate_dst (N := 2) rfl ?_); refine zbox 2 #[.slice A0_0 l0_0.length c0_0, .slice A0_1 l0_1.length c0_1] 32 ?_; intro gb268 hg w3 hbox hb; have BK268 := zm (hbox); have GW268 := zge w hg zB; have GE268 := zge w hg zB; replace HB := zm (below_step zB hb); clear hb hbox hg; obtain ⟨hcz4_0, hcz4_1, hfz4_0, hfz4_1⟩ := zc2 BK268))
 go_loopg [10] k (fun kq v10 w' => ∃ (x10_1 : Int), v10 = .int .i64 x10_1 ∧ Aside0 (impl_FloorOf.l0 kq a1 l0_1 (l0_1.length : Int) x10_1 = some r) ∧ Aside0 (kq ≤ k) ∧ Aside0 (w'.heap[gb268]? = some (.cells #[(.slice A0_0 l0_0.length c0_0), (.slice A0_1 l0_1.length c0_1)] 32 (0, 0))) ∧ Aside0 (Below w.heap.size w w'))
 case atStart => exact ⟨(0), zF, H', ⟨Nat.le_refl _⟩, ⟨zb BK268⟩, ⟨zB⟩⟩
 case round =>
  clear H'; (try clear hcz4_0); (try clear hcz4_1); (try clear hfz4_0); (try clear hfz4_1); obtain ⟨x10_1, rfl, HA, HK1, BK268, HB⟩ := hrel
  cases gk with
  | zero => exact absurd HA.out (by simp [impl_FloorOf.l0])
  | succ k1 =>
   have H := HA.out; clear HA; simp only [impl_FloorOf.l0] at H
   by_cases c5 : x10_1 < (l0_1.length : Int)
   ·rw [if_pos c5] at H; have c5b0 : decide (x10_1 < (l0_1.length : Int)) = true := decide_eq_true c5; clear c5
    by_cases c6 : 0 ≤ x10_1
    ·rw [if_pos c6] at H; have c6b0 : decide (0 ≤ x10_1) = true := decide_eq_true c6; clear c6
     by_cases c7 : x10_1 < (l0_1.length : Int)
     ·rw [if_pos c7] at H; have c7b0 : decide (x10_1 < (l0_1.length : Int)) = true := decide_eq_true c7; clear c7
      by_cases c8 : ((rd_T72 l0_1 x10_1).f0) = a1
      ·rw [if_pos c8] at H; have c8b0 : (((rd_T72 l0_1 x10_1).f0) == a1) = true := beq_iff_eq.mpr c8; have c8b1 : (((rd_T72 l0_1 x10_1).f0) != a1) = false := bne_eq_false_iff_eq.mpr c8; clear c8; obtain rfl := Option.some.inj H; have p269 : 0 ≤ (x10_1 : Int) := zd; have q269 : x10_1 < (l0_1.length : Int) := zd; obtain ⟨ad269, e269, hx269_0, hx269_1⟩ := at_T72 (Kd.C_below HR0_1.out HB.out) x10_1 p269 q269; cases e269; replace p269 := eq_true p269; replace q269 := eq_true q269
       go_wp2_with (first | ((with_reducible refine gate_dst (N := 6) rfl ?_); refine zbox 6 #[.int .i64 0, .int .i64 0] 72 ?_; intro gb270 hg w9 hbox hb; have BK270 := zm (hbox); have GW270 := zge w hg zB; have GE270 := zge w hg zB; replace HB := zm (below_step zB hb); have NB268_270 := zlt hg (zb BK268); have NB270_268 := zgt hg (zb BK268); replace BK268 := zy BK268 hb; clear hb hbox hg; have hnb10 := NB270_268.out; have hnc10 := NB268_270.out; obtain ⟨hcz11_0, hcz11_1, hfz11_0, hfz11_1⟩ := zc2 BK270))
       go_ret
       exact ⟨zE, zB⟩
      ·rw [if_neg c8] at H; have c8b0 : (((rd_T72 l0_1 x10_1).f0) == a1) = false := beq_eq_false_iff_ne.mpr c8; have c8b1 : (((rd_T72 l0_1 x10_1).f0) != a1) = true := bne_iff_ne.mpr c8
       have H' := zm H
       clear H; have p269 : 0 ≤ (x10_1 : Int) := zd; have q269 : x10_1 < (l0_1.length : Int) := zd; obtain ⟨ad269, e269, hx269_0, hx269_1⟩ := at_T72 (Kd.C_below HR0_1.out HB.out) x10_1 p269 q269; cases e269; replace p269 := eq_true p269; replace q269 := eq_true q269
       go_wp2_with (first | ((with_reducible refine gate_dst (N := 6) rfl ?_); refine zbox 6 #[.int .i64 0, .int .i64 0] 72 ?_; intro gb270 hg w12 hbox hb; have BK270 := zm (hbox); have GW270 := zge w hg zB; have GE270 := zge w hg zB; replace HB := zm (below_step zB hb); have NB268_270 := zlt hg (zb BK268); have NB270_268 := zgt hg (zb BK268); replace BK268 := zy BK268 hb; clear hb hbox hg; have hnb13 := NB270_268.out; have hnc13 := NB268_270.out; obtain ⟨hcz14_0, hcz14_1, hfz14_0, hfz14_1⟩ := zc2 BK270))
       go_roundg k1
       case measure => have := HK1.out; omega
       case rel => exact ⟨(wrap64 (x10_1 + 1)), zF, H', ⟨by have := HK1.out; omega⟩, ⟨zfar (zfar (zb BK268) NB268_270) NB268_270⟩, ⟨zB⟩⟩
     ·rw [if_neg c7] at H
      exact absurd H (by simp)
    ·rw [if_neg c6] at H
     exact absurd H (by simp)
   ·rw [if_neg c5] at H; have c5b0 : decide (x10_1 < (l0_1.length : Int)) = false := decide_eq_false c5; clear c5; obtain rfl := Option.some.inj H
    go_wp2
    go_ret
    exact ⟨zE, zB⟩

/-! ### impl_isNode: function 94 -/
def impl_isNode.f (a0 : Int) : Option (Bool) := (impl_within.f a0 0 4).bind fun t271 => (some t271)
set_option maxHeartbeats 8000000 in
set_option maxRecDepth 100000 in
theorem impl_isNode.calls (a0 : Int) (r : Bool) (w : World) (h : impl_isNode.f a0 = some r) :
  Calls Try.prog 94 #[.int .i64 a0] w fun e w' => e = .returned (.bool r) ∧ Drawn0 w w' := by
 have H : ((impl_within.f a0 0 4).bind fun t271 => (some t271)) = some r := h; clear h; replace H := Option.bind_eq_some_iff.mp H; obtain ⟨t271, A20, H⟩ := H; (try dsimp only at H); have A2 := zm A20; clear A20; obtain rfl := Option.some.inj H; go_enter Try.func94, Try.ntmps94
 go_wp2_with (first | ((with_reducible refine gate_callee (f := 64) rfl ?_); refine zg (some 4) #[.int .i64 a0, .int .i64 0, .int .i64 4] Try.func64 ?_; (with_reducible refine (impl_within.calls a0 0 4 t271 _ A2.out).mono ?_); rintro e w' ⟨rfl, ⟨nd, rfl⟩⟩; refine ⟨_, rfl, ?_⟩))
 go_ret
 exact ⟨zF, zD⟩

/-! ### impl_EntryOk: function 95 -/
def impl_EntryOk.f (a0_0 : Int) (a0_1 : Int) (a0_2 : Int) (a0_3 : Int) (a0_4 : ByteArray) : Option (Bool) := (impl_within.f a0_0 1 1000).bind fun t273 => (if t273 = true then ((impl_within.f a0_1 0 1).bind fun t274 => (if t274 = true then ((impl_within.f a0_2 0 100000).bind fun t275 => (if t275 = true then ((impl_within.f a0_3 0 1000).bind fun t276 => (if t276 = true then (some (decide ((a0_4.size : Int) ≤ 8))) else (some false))) else (some false))) else (some false))) else (some false))
set_option maxHeartbeats 8000000 in
set_option maxRecDepth 100000 in
theorem impl_EntryOk.calls (a0_0 : Int) (a0_1 : Int) (a0_2 : Int) (a0_3 : Int) (a0_4 : ByteArray) (r : Bool) (w : World) (h : impl_EntryOk.f a0_0 a0_1 a0_2 a0_3 a0_4 = some r) :
  Calls Try.prog 95 #[.agg #[.int .i64 a0_0, .int .i64 a0_1, .int .i64 a0_2, .int .i64 a0_3, .string a0_4]] w fun e w' => e = .returned (.bool r) ∧ Below w.heap.size w w' := by
 have hu66 := Try.underlying66; have HB := zm (Below.refl w.heap.size w); have H : ((impl_within.f a0_0 1 1000).bind fun t273 => (if t273 = true then ((impl_within.f a0_1 0 1).bind fun t274 => (if t274 = true then ((impl_within.f a0_2 0 100000).bind fun t275 => (if t275 = true then ((impl_within.f a0_3 0 1000).bind fun t276 => (if t276 = true then (some (decide ((a0_4.size : Int) ≤ 8))) else (some false))) else (some false))) else (some false))) else (some false))) = some r := h; clear h; replace H := Option.bind_eq_some_iff.mp H; obtain ⟨t273, A20, H⟩ := H; (try dsimp only at H); have A2 := zm A20; clear A20
 by_cases c3 : t273 = true
 ·subst c3; rw [if_pos rfl] at H; replace H := Option.bind_eq_some_iff.mp H; obtain ⟨t274, A40, H⟩ := H; (try dsimp only at H); have A4 := zm A40; clear A40
  by_cases c5 : t274 = true
  ·subst c5; rw [if_pos rfl] at H; replace H := Option.bind_eq_some_iff.mp H; obtain ⟨t275, A60, H⟩ := H; (try dsimp only at H); have A6 := zm A60; clear A60
   by_cases c7 : t275 = true
   ·subst c7; rw [if_pos rfl] at H; replace H := Option.bind_eq_some_iff.mp H; obtain ⟨t276, A80, H⟩ := H; (try dsimp only at H); have A8 := zm A80; clear A80
    by_cases c9 : t276 = true
    ·subst c9; rw [if_pos rfl] at H; obtain rfl := Option.some.inj H; go_enter Try.func95, Try.ntmps95
     go_wp2_with (first | ((with_reducible refine gate_dst (N := 1) rfl ?_); (try (refine gate_guard (by rfl) ?_; dsimp only)); refine zbox 1 #[.int .i64 a0_0, .int .i64 a0_1, .int .i64 a0_2, .int .i64 a0_3, .string a0_4] 66 ?_; intro gb272 hg w10 hbox hb; have BK272 := zm (hbox); have GW272 := zge w hg zB; have GE272 := zge w hg zB; replace HB := zm (below_step zB hb); clear hb hbox hg; obtain ⟨hcz11_0, hcz11_1, hcz11_2, hcz11_3, hcz11_4, hfz11_0, hfz11_1, hfz11_2, hfz11_3, hfz11_4⟩ := zc5 BK272) | ((with_reducible refine gate_callee (f := 64) rfl ?_); refine zg (some 5) #[.int .i64 a0_0, .int .i64 1, .int .i64 1000] Try.func64 ?_; (with_reducible refine (impl_within.calls a0_0 1 1000 true _ A2.out).mono ?_); rintro e w' ⟨rfl, ⟨nd, rfl⟩⟩; refine ⟨_, rfl, ?_⟩) | (go_at_call 64; (with_reducible refine (impl_within.calls a0_1 0 1 true _ A4.out).mono ?_); rintro e w' ⟨rfl, ⟨nd, rfl⟩⟩) | (go_at_call 64; (with_reducible refine (impl_within.calls a0_2 0 100000 true _ A6.out).mono ?_); rintro e w' ⟨rfl, ⟨nd, rfl⟩⟩) | (go_at_call 64; (with_reducible refine (impl_within.calls a0_3 0 1000 true _ A8.out).mono ?_); rintro e w' ⟨rfl, ⟨nd, rfl⟩⟩))
     go_ret
     exact ⟨zE, zB⟩
    ·replace c9 := Bool.eq_false_iff.mpr c9; subst c9; rw [zff] at H; obtain rfl := Option.some.inj H; go_enter Try.func95, Try.ntmps95
     go_wp2_with (first | ((with_reducible refine gate_dst (N := 1) rfl ?_); (try (refine gate_guard (by rfl) ?_; dsimp only)); refine zbox 1 #[.int .i64 a0_0, .int .i64 a0_1, .int .i64 a0_2, .int .i64 a0_3, .string a0_4] 66 ?_; intro gb272 hg w12 hbox hb; have BK272 := zm (hbox); have GW272 := zge w hg zB; have GE272 := zge w hg zB; replace HB := zm (below_step zB hb); clear hb hbox hg; obtain ⟨hcz13_0, hcz13_1, hcz13_2, hcz13_3, hcz13_4, hfz13_0, hfz13_1, hfz13_2, hfz13_3, hfz13_4⟩ := zc5 BK272) | ((with_reducible refine gate_callee (f := 64) rfl ?_); refine zg (some 5) #[.int .i64 a0_0, .int .i64 1, .int .i64 1000] Try.func64 ?_; (with_reducible refine (impl_within.calls a0_0 1 1000 true _ A2.out).mono ?_); rintro e w' ⟨rfl, ⟨nd, rfl⟩⟩; refine ⟨_, rfl, ?_⟩) | (go_at_call 64; (with_reducible refine (impl_within.calls a0_1 0 1 true _ A4.out).mono ?_); rintro e w' ⟨rfl, ⟨nd, rfl⟩⟩) | (go_at_call 64; (with_reducible refine (impl_within.calls a0_2 0 100000 true _ A6.out).mono ?_); rintro e w' ⟨rfl, ⟨nd, rfl⟩⟩) | (go_at_call 64; (with_reducible refine (impl_within.calls a0_3 0 1000 false _ A8.out).mono ?_); rintro e w' ⟨rfl, ⟨nd, rfl⟩⟩))
     go_ret
     exact ⟨zE, zB⟩
   ·replace c7 := Bool.eq_false_iff.mpr c7; subst c7; rw [zff] at H; obtain rfl := Option.some.inj H; go_enter Try.func95, Try.ntmps95
    go_wp2_with (first | ((with_reducible refine gate_dst (N := 1) rfl ?_); (try (refine gate_guard (by rfl) ?_; dsimp only)); refine zbox 1 #[.int .i64 a0_0, .int .i64 a0_1, .int .i64 a0_2, .int .i64 a0_3, .string a0_4] 66 ?_; intro gb272 hg w14 hbox hb; have BK272 := zm (hbox); have GW272 := zge w hg zB; have GE272 := zge w hg zB; replace HB := zm (below_step zB hb); clear hb hbox hg; obtain ⟨hcz15_0, hcz15_1, hcz15_2, hcz15_3, hcz15_4, hfz15_0, hfz15_1, hfz15_2, hfz15_3, hfz15_4⟩ := zc5 BK272) | ((with_reducible refine gate_callee (f := 64) rfl ?_); refine zg (some 5) #[.int .i64 a0_0, .int .i64 1, .int .i64 1000] Try.func64 ?_; (with_reducible refine (impl_within.calls a0_0 1 1000 true _ A2.out).mono ?_); rintro e w' ⟨rfl, ⟨nd, rfl⟩⟩; refine ⟨_, rfl, ?_⟩) | (go_at_call 64; (with_reducible refine (impl_within.calls a0_1 0 1 true _ A4.out).mono ?_); rintro e w' ⟨rfl, ⟨nd, rfl⟩⟩) | (go_at_call 64; (with_reducible refine (impl_within.calls a0_2 0 100000 false _ A6.out).mono ?_); rintro e w' ⟨rfl, ⟨nd, rfl⟩⟩))
    go_ret
    exact ⟨zE, zB⟩
  ·replace c5 := Bool.eq_false_iff.mpr c5; subst c5; rw [zff] at H; obtain rfl := Option.some.inj H; go_enter Try.func95, Try.ntmps95
   go_wp2_with (first | ((with_reducible refine gate_dst (N := 1) rfl ?_); (try (refine gate_guard (by rfl) ?_; dsimp only)); refine zbox 1 #[.int .i64 a0_0, .int .i64 a0_1, .int .i64 a0_2, .int .i64 a0_3, .string a0_4] 66 ?_; intro gb272 hg w16 hbox hb; have BK272 := zm (hbox); have GW272 := zge w hg zB; have GE272 := zge w hg zB; replace HB := zm (below_step zB hb); clear hb hbox hg; obtain ⟨hcz17_0, hcz17_1, hcz17_2, hcz17_3, hcz17_4, hfz17_0, hfz17_1, hfz17_2, hfz17_3, hfz17_4⟩ := zc5 BK272) | ((with_reducible refine gate_callee (f := 64) rfl ?_); refine zg (some 5) #[.int .i64 a0_0, .int .i64 1, .int .i64 1000] Try.func64 ?_; (with_reducible refine (impl_within.calls a0_0 1 1000 true _ A2.out).mono ?_); rintro e w' ⟨rfl, ⟨nd, rfl⟩⟩; refine ⟨_, rfl, ?_⟩) | (go_at_call 64; (with_reducible refine (impl_within.calls a0_1 0 1 false _ A4.out).mono ?_); rintro e w' ⟨rfl, ⟨nd, rfl⟩⟩))
   go_ret
   exact ⟨zE, zB⟩
 ·replace c3 := Bool.eq_false_iff.mpr c3; subst c3; rw [zff] at H; obtain rfl := Option.some.inj H; go_enter Try.func95, Try.ntmps95
  go_wp2_with (first | ((with_reducible refine gate_dst (N := 1) rfl ?_); (try (refine gate_guard (by rfl) ?_; dsimp only)); refine zbox 1 #[.int .i64 a0_0, .int .i64 a0_1, .int .i64 a0_2, .int .i64 a0_3, .string a0_4] 66 ?_; intro gb272 hg w18 hbox hb; have BK272 := zm (hbox); have GW272 := zge w hg zB; have GE272 := zge w hg zB; replace HB := zm (below_step zB hb); clear hb hbox hg; obtain ⟨hcz19_0, hcz19_1, hcz19_2, hcz19_3, hcz19_4, hfz19_0, hfz19_1, hfz19_2, hfz19_3, hfz19_4⟩ := zc5 BK272) | ((with_reducible refine gate_callee (f := 64) rfl ?_); refine zg (some 5) #[.int .i64 a0_0, .int .i64 1, .int .i64 1000] Try.func64 ?_; (with_reducible refine (impl_within.calls a0_0 1 1000 false _ A2.out).mono ?_); rintro e w' ⟨rfl, ⟨nd, rfl⟩⟩; refine ⟨_, rfl, ?_⟩))
  go_ret
  exact ⟨zE, zB⟩

end Go.Proofs.Ytgapdegniepjiaa.P
