-- by a program of this session, for this seat
import Derived.Test.YtnmofppbijmhoaaZ
import Derived.Test.YtnmofppbijmhoaaP0
namespace Go.Proofs.Ytnmofppbijmhoaa.P
open Go.RowKit Go.Proofs.YtnmofppbijmhoaaW.PrintWords Go.Proofs.YtnmofppbijmhoaaW.PrintLast Go.Proofs.YtnmofppbijmhoaaW.PrintMore Go.Proofs.Ytnmofppbijmhoaa.Z
attribute [local go_sem] max2_int min2_int max_two min_two max_three min_three max_four min_four   -- for this text's walks alone
set_option linter.unusedVariables false
set_option linter.unusedSimpArgs false

/-! ### spec_EntryOf: function 61 -/
def spec_EntryOf.l0 : Nat → Int → Int → List (S44) → List (S58) → Option (Int × Int × Int × Int × ByteArray × Bool)
 | 0, _, _, _, _ => none
 | k + 1, x1, x6, x126000, x126001 => if x6 < (x126000.length : Int) then (if 0 ≤ x6 then (if ((rd_T44 x126000 x6).f0) = x1 then (some ((rd_T44 x126000 x6).f1.f0, (rd_T44 x126000 x6).f1.f1, (rd_T44 x126000 x6).f1.f2, (rd_T44 x126000 x6).f1.f3, (rd_T44 x126000 x6).f1.f4, true)) else (spec_EntryOf.l0 k x1 (wrap64 (x6 + 1)) x126000 x126001)) else (none)) else (some (0, 0, 0, 0, (⟨#[]⟩ : ByteArray), false))
def spec_EntryOf.f (k : Nat) (l0_0 : List (S44)) (l0_1 : List (S58)) (a1 : Int) : Option (Int × Int × Int × Int × ByteArray × Bool) := spec_EntryOf.l0 k a1 0 l0_0 l0_1
theorem spec_EntryOf.mono_l : ∀ k, (∀ y0 y1 y2 y3, LeO (spec_EntryOf.l0 k y0 y1 y2 y3) (spec_EntryOf.l0 (k + 1) y0 y1 y2 y3))
 | 0 => fun _ _ _ _ r h => by simp [spec_EntryOf.l0] at h
 | k + 1 => by
  have ih0 := spec_EntryOf.mono_l k
  ·intro y0 y1 y2 y3
   unfold spec_EntryOf.l0
   repeat' first | (with_reducible first | exact LeO.refl _ | exact LeO.none _ | refine LeO.ite ?_ ?_ | refine LeO.bind ?_ (fun _ => ?_) | apply ih0) | apply ih0 | exact LeO.none _ | refine LeO.ite ?_ ?_ | refine LeO.bind ?_ (fun _ => ?_)
theorem spec_EntryOf.mono : ∀ a0 a1 a2 k, LeO (spec_EntryOf.f k a0 a1 a2) (spec_EntryOf.f (k + 1) a0 a1 a2) := by
 intro a0 a1 a2 k; have ih0 := spec_EntryOf.mono_l k
 unfold spec_EntryOf.f
 repeat' first | (with_reducible first | exact LeO.refl _ | exact LeO.none _ | refine LeO.ite ?_ ?_ | refine LeO.bind ?_ (fun _ => ?_) | apply ih0) | apply ih0 | exact LeO.none _ | refine LeO.ite ?_ ?_ | refine LeO.bind ?_ (fun _ => ?_)
set_option maxHeartbeats 8000000 in
set_option maxRecDepth 100000 in
theorem spec_EntryOf.calls (k : Nat) (A0_0 : Option Addr) (c0_0 : Nat) (l0_0 : List (S44)) (A0_1 : Option Addr) (c0_1 : Nat) (l0_1 : List (S58)) (a1 : Int) (r1 : Int) (r2 : Int) (r3 : Int) (r4 : Int) (r5 : ByteArray) (r6 : Bool) (w : World) (hr0_0 : Kd.C k44 w A0_0 l0_0.length l0_0) (hc0_0 : l0_0.length ≤ c0_0) (hr0_1 : Kd.C k58 w A0_1 l0_1.length l0_1) (hc0_1 : l0_1.length ≤ c0_1) (h : spec_EntryOf.f k l0_0 l0_1 a1 = some (r1, r2, r3, r4, r5, r6)) :
  Calls Try.prog 61 #[.agg #[.slice A0_0 l0_0.length c0_0, .slice A0_1 l0_1.length c0_1], .int .i64 a1] w fun e w' => e = .returned (.tuple #[.agg #[.int .i64 r1, .int .i64 r2, .int .i64 r3, .int .i64 r4, .string r5], .bool r6]) ∧ Below w.heap.size w w' := by
 have hu27 := Try.underlying27; have hu36 := Try.underlying36; have HR0_0 := zm hr0_0; have HC0_0 := zm hc0_0; clear hr0_0 hc0_0; have HR0_1 := zm hr0_1; have HC0_1 := zm hc0_1; clear hr0_1 hc0_1; have HB := zm (Below.refl w.heap.size w); have H : (spec_EntryOf.l0 k a1 0 l0_0 l0_1) = some (r1, r2, r3, r4, r5, r6) := h; clear h
 have H' := zm H
 clear H; go_enter Try.func61, Try.ntmps61
 go_wp2_with (first | ((with_reducible refine gate_dst (N := 2) rfl ?_); refine zbox 2 #[.slice A0_0 l0_0.length c0_0, .slice A0_1 l0_1.length c0_1] 27 ?_; intro AL hg w3 hbox hb; have AB := zm (hbox); have Ay := zge w hg zB; have Aw := zge w hg zB; replace HB := zm (below_step zB hb); clear hb hbox hg) | ((with_reducible refine gate_dst (N := 4) rfl ?_); refine zbox 4 #[.int .i64 0, .int .i64 0, .int .i64 0, .int .i64 0, .string (⟨#[]⟩ : ByteArray)] 36 ?_; intro AK hg w4 hbox hb; have AC := zm (hbox); have Az := zge w hg zB; have Ax := zge w hg zB; replace HB := zm (below_step zB hb); have AD := zlt hg (zb AB); have AE := zgt hg (zb AB); replace AB := zy AB hb; clear hb hbox hg))
 go_loopg [6] k (fun kq v6 w' => ∃ (AA : Int) (AF : Int) (AG : Int) (AH : Int) (AI : Int) (AJ : ByteArray), v6 = .int .i64 AA ∧ Aside0 (spec_EntryOf.l0 kq a1 AA l0_0 l0_1 = some (r1, r2, r3, r4, r5, r6)) ∧ Aside0 (kq ≤ k) ∧ Aside0 (w'.heap[AL]? = some (.cells #[(.slice A0_0 l0_0.length c0_0), (.slice A0_1 l0_1.length c0_1)] 27 (0, 0))) ∧ Aside0 (w'.heap[AK]? = some (.cells #[.int .i64 AF, .int .i64 AG, .int .i64 AH, .int .i64 AI, .string AJ] 36 (0, 0))) ∧ Aside0 (Below w.heap.size w w'))
 case atStart => exact ⟨(0), (0), (0), (0), (0), ((⟨#[]⟩ : ByteArray)), zF, H', ⟨Nat.le_refl _⟩, ⟨zb AB⟩, ⟨zb AC⟩, ⟨zB⟩⟩
 case round =>
  clear H'; obtain ⟨AA, AF, AG, AH, AI, AJ, rfl, HA, AM, AB, AC, HB⟩ := hrel
  cases gk with
  | zero => exact absurd HA.out (by simp [spec_EntryOf.l0])
  | succ k1 =>
   have H := HA.out; clear HA; simp only [spec_EntryOf.l0] at H
   by_cases c5 : AA < (l0_0.length : Int)
   ·rw [if_pos c5] at H; have AN : decide (AA < (l0_0.length : Int)) = true := decide_eq_true c5; clear c5
    by_cases c6 : 0 ≤ AA
    ·rw [if_pos c6] at H; have BB : decide (0 ≤ AA) = true := decide_eq_true c6; clear c6
     by_cases c7 : ((rd_T44 l0_0 AA).f0) = a1
     ·rw [if_pos c7] at H; have AO : (((rd_T44 l0_0 AA).f0) == a1) = true := beq_iff_eq.mpr c7; have AP : (((rd_T44 l0_0 AA).f0) != a1) = false := bne_eq_false_iff_eq.mpr c7; clear c7; simp only [Option.some.injEq, Prod.mk.injEq] at H; obtain ⟨rfl, rfl, rfl, rfl, rfl, rfl⟩ := H; have BC := AD.out; have BD := AE.out; obtain ⟨As, At, Au, Av⟩ := zc2 AB; have p127 : 0 ≤ (AA : Int) := zd; have q127 : AA < (l0_0.length : Int) := zd; obtain ⟨ad127, e127, hx127_0, hx127_1, hx127_2, hx127_3, hx127_4, hx127_5⟩ := at_T44 (Kd.C_below HR0_0.out HB.out) AA p127 q127; cases e127; replace p127 := eq_true p127; replace q127 := eq_true q127; have p128 : 0 ≤ (AA : Int) := zd; have q128 : AA < (l0_0.length : Int) := zd; obtain ⟨ad128, e128, hx128_0, hx128_1, hx128_2, hx128_3, hx128_4, hx128_5⟩ := at_T44 (Kd.C_below HR0_0.out HB.out) AA p128 q128
      obtain rfl : ad127 = ad128 := (by injection e128)
      replace p128 := eq_true p128; replace q128 := eq_true q128; obtain ⟨AQ, AR, AS, AT, AU, Ae, Af, Ag, Ah, Ai⟩ := zc5 AC
      go_wp2
      refine bodyPost_ret (results_ct rfl _ _ AK 36 #[.int .i64 ((rd_T44 l0_0 AA).f1.f0), .int .i64 ((rd_T44 l0_0 AA).f1.f1), .int .i64 ((rd_T44 l0_0 AA).f1.f2), .int .i64 ((rd_T44 l0_0 AA).f1.f3), .string ((rd_T44 l0_0 AA).f1.f4)] (0, 0) _ rfl (zput (zput (zput (zput (zput (zb AC) 0) 1) 2) 3) 4) Try.underlying36 rfl (by kernel_rfl)) rfl ?_
      exact ⟨zE, zB⟩
     ·rw [if_neg c7] at H; have AO : (((rd_T44 l0_0 AA).f0) == a1) = false := beq_eq_false_iff_ne.mpr c7; have AP : (((rd_T44 l0_0 AA).f0) != a1) = true := bne_iff_ne.mpr c7
      have H' := zm H
      clear H; have B0 := AD.out; have B3 := AE.out; obtain ⟨AV, AW, Aj, Ak⟩ := zc2 AB; have p127 : 0 ≤ (AA : Int) := zd; have q127 : AA < (l0_0.length : Int) := zd; obtain ⟨ad127, e127, hx127_0, hx127_1, hx127_2, hx127_3, hx127_4, hx127_5⟩ := at_T44 (Kd.C_below HR0_0.out HB.out) AA p127 q127; cases e127; replace p127 := eq_true p127; replace q127 := eq_true q127
      go_wp2
      go_roundg k1
      case measure => have := AM.out; omega
      case rel => exact ⟨(wrap64 (AA + 1)), (AF), (AG), (AH), (AI), (AJ), zF, H', ⟨by have := AM.out; omega⟩, ⟨zb AB⟩, ⟨zb AC⟩, ⟨zB⟩⟩
    ·rw [if_neg c6] at H
     exact absurd H (by simp)
   ·rw [if_neg c5] at H; have AN : decide (AA < (l0_0.length : Int)) = false := decide_eq_false c5; clear c5; simp only [Option.some.injEq, Prod.mk.injEq] at H; obtain ⟨rfl, rfl, rfl, rfl, rfl, rfl⟩ := H; have B2 := AD.out; have BA := AE.out; obtain ⟨AX, AY, Al, Am⟩ := zc2 AB; obtain ⟨AZ, Aa, Ab, Ac, Ad, An, Ao, Ap, Aq, Ar⟩ := zc5 AC
    go_wp2
    refine bodyPost_ret (results_ct rfl _ _ AK 36 #[.int .i64 0, .int .i64 0, .int .i64 0, .int .i64 0, .string (⟨#[]⟩ : ByteArray)] (0, 0) _ rfl (zput (zput (zput (zput (zput (zb AC) 0) 1) 2) 3) 4) Try.underlying36 rfl (by kernel_rfl)) rfl ?_
    exact ⟨zE, zB⟩

/-! ### spec_l1Bit: function 102 -/
def spec_l1Bit.f (a0 : Bool) : Option (Int) := if a0 = true then (some 1) else (some 0)
set_option maxHeartbeats 8000000 in
set_option maxRecDepth 100000 in
theorem spec_l1Bit.calls (a0 : Bool) (r : Int) (w : World) (h : spec_l1Bit.f a0 = some r) :
  Calls Try.prog 102 #[.bool a0] w fun e w' => e = .returned (.int .i64 r) ∧ Drawn0 w w' := by
 have H : (if a0 = true then (some 1) else (some 0)) = some r := h; clear h
 by_cases c2 : a0 = true
 ·subst c2; rw [if_pos rfl] at H; obtain rfl := Option.some.inj H; go_enter Try.func102, Try.ntmps102
  go_wp2
  go_ret
  exact ⟨zF, zD⟩
 ·replace c2 := Bool.eq_false_iff.mpr c2; subst c2; rw [zff] at H; obtain rfl := Option.some.inj H; go_enter Try.func102, Try.ntmps102
  go_wp2
  go_ret
  exact ⟨zF, zD⟩

/-! ### spec_l2Cmp: function 101 -/
def spec_l2Cmp.f (a0 : Int) (a1 : Int) : Option (Int) := if a0 < a1 then (some (-1)) else ((spec_l1Bit.f (decide (a0 > a1))).bind fun t129 => (some t129))
set_option maxHeartbeats 8000000 in
set_option maxRecDepth 100000 in
theorem spec_l2Cmp.calls (a0 : Int) (a1 : Int) (r : Int) (w : World) (h : spec_l2Cmp.f a0 a1 = some r) :
  Calls Try.prog 101 #[.int .i64 a0, .int .i64 a1] w fun e w' => e = .returned (.int .i64 r) ∧ Drawn0 w w' := by
 have H : (if a0 < a1 then (some (-1)) else ((spec_l1Bit.f (decide (a0 > a1))).bind fun AA => (some AA))) = some r := h; clear h
 by_cases c3 : a0 < a1
 ·rw [if_pos c3] at H; have AC : decide (a0 < a1) = true := decide_eq_true c3; clear c3; obtain rfl := Option.some.inj H; go_enter Try.func101, Try.ntmps101
  go_wp2
  go_ret
  exact ⟨zF, zD⟩
 ·rw [if_neg c3] at H; have AC : decide (a0 < a1) = false := decide_eq_false c3; clear c3; replace H := Option.bind_eq_some_iff.mp H; obtain ⟨AA, AB, H⟩ := H; (try dsimp only at H); have A4 := zm AB; clear AB; obtain rfl := Option.some.inj H; go_enter Try.func101, Try.ntmps101
  go_wp2_with (first | ((with_reducible refine gate_callee (f := 102) rfl ?_); refine zg (some 11) #[.bool (decide (a0 > a1))] Try.func102 ?_; (with_reducible refine (spec_l1Bit.calls (decide (a0 > a1)) AA _ A4.out).mono ?_); rintro e w' ⟨rfl, ⟨nd, rfl⟩⟩; refine ⟨_, rfl, ?_⟩))
  go_ret
  exact ⟨zF, zD⟩

/-! ### spec_EntryCmp: function 62 -/
def spec_EntryCmp.l0 : Nat → List Int → Int → Int → Int → Int → Int → ByteArray → Int → Int → Int → Int → ByteArray → Option (Int)
 | 0, _, _, _, _, _, _, _, _, _, _, _, _ => none
 | k + 1, x5, x6, x131000, x131001, x131002, x131003, x131004, x132000, x132001, x132002, x132003, x132004 => if x6 < (x5.length : Int) then (if 0 ≤ x6 then (if (rd x5 x6) = 0 then (spec_EntryCmp.l0 k x5 (wrap64 (x6 + 1)) x131000 x131001 x131002 x131003 x131004 x132000 x132001 x132002 x132003 x132004) else (some (rd x5 x6))) else (none)) else (if (Op.bytesLess x131004.toList x132004.toList) = true then (some (-1)) else ((spec_l1Bit.f (!(x131004.toList == x132004.toList))).bind fun t141 => (some t141)))
def spec_EntryCmp.f (k : Nat) (a0_0 : Int) (a0_1 : Int) (a0_2 : Int) (a0_3 : Int) (a0_4 : ByteArray) (a1_0 : Int) (a1_1 : Int) (a1_2 : Int) (a1_3 : Int) (a1_4 : ByteArray) : Option (Int) := (spec_l2Cmp.f a0_0 a1_0).bind fun t132 => ((spec_l2Cmp.f a0_1 a1_1).bind fun t133 => ((spec_l2Cmp.f a0_2 a1_2).bind fun t134 => ((spec_l2Cmp.f a0_3 a1_3).bind fun t135 => (spec_EntryCmp.l0 k (([t132, t133, t134, t135] : List Int)) 0 a0_0 a0_1 a0_2 a0_3 a0_4 a1_0 a1_1 a1_2 a1_3 a1_4))))
theorem spec_EntryCmp.mono_l : ∀ k, (∀ y0 y1 y2 y3 y4 y5 y6 y7 y8 y9 y10 y11, LeO (spec_EntryCmp.l0 k y0 y1 y2 y3 y4 y5 y6 y7 y8 y9 y10 y11) (spec_EntryCmp.l0 (k + 1) y0 y1 y2 y3 y4 y5 y6 y7 y8 y9 y10 y11))
 | 0 => fun _ _ _ _ _ _ _ _ _ _ _ _ r h => by simp [spec_EntryCmp.l0] at h
 | k + 1 => by
  have ih0 := spec_EntryCmp.mono_l k
  ·intro y0 y1 y2 y3 y4 y5 y6 y7 y8 y9 y10 y11
   unfold spec_EntryCmp.l0
   repeat' first | (with_reducible first | exact LeO.refl _ | exact LeO.none _ | refine LeO.ite ?_ ?_ | refine LeO.bind ?_ (fun _ => ?_) | apply ih0) | apply ih0 | exact LeO.none _ | refine LeO.ite ?_ ?_ | refine LeO.bind ?_ (fun _ => ?_)
theorem spec_EntryCmp.mono : ∀ a0 a1 a2 a3 a4 a5 a6 a7 a8 a9 k, LeO (spec_EntryCmp.f k a0 a1 a2 a3 a4 a5 a6 a7 a8 a9) (spec_EntryCmp.f (k + 1) a0 a1 a2 a3 a4 a5 a6 a7 a8 a9) := by
 intro a0 a1 a2 a3 a4 a5 a6 a7 a8 a9 k; have ih0 := spec_EntryCmp.mono_l k
 unfold spec_EntryCmp.f
 repeat' first | (with_reducible first | exact LeO.refl _ | exact LeO.none _ | refine LeO.ite ?_ ?_ | refine LeO.bind ?_ (fun _ => ?_) | apply ih0) | apply ih0 | exact LeO.none _ | refine LeO.ite ?_ ?_ | refine LeO.bind ?_ (fun _ => ?_)
def spec_EntryCmp.T1 : Bool × List (List Nat × List Nat) := (true, [([], []), ([0], [0]), ([], []), ([2], [2]), ([1, 3], [1, 3]), ([], []), ([5], [5]), ([], []), ([7], [7]), ([6, 8, 4], [6, 8]), ([], []), ([10], [10]), ([], []), ([12], [12]), ([11, 13, 9], [11, 13]), ([], []), ([15], [15]), ([], []), ([17], [17]), ([16, 18, 14], [16, 18]), ([4, 9, 14, 19], [4, 9, 14, 19]), ([20, 19, 0, 1, 2, 3, 4, 5, 6, 7, 8, 9, 10, 11, 12, 13, 14, 15, 16, 17, 18, 19, 20], [20])])
def spec_EntryCmp.B1 : List Nat := [0, 1, 0, 4, 15, 0, 32, 0, 128, 511, 0, 1024, 0, 4096, 16383, 0, 32768, 0, 131072, 524287, 1048575, 2097151]
theorem spec_EntryCmp.tab1 : rtab .any (opsOf Try.f62 1) = spec_EntryCmp.T1 := by kernel_rfl
theorem spec_EntryCmp.bits1 : waitsOk spec_EntryCmp.T1.2 spec_EntryCmp.B1 = true := by kernel_rfl
set_option maxHeartbeats 8000000 in
set_option maxRecDepth 100000 in
theorem spec_EntryCmp.calls (k : Nat) (a0_0 : Int) (a0_1 : Int) (a0_2 : Int) (a0_3 : Int) (a0_4 : ByteArray) (a1_0 : Int) (a1_1 : Int) (a1_2 : Int) (a1_3 : Int) (a1_4 : ByteArray) (r : Int) (w : World) (h : spec_EntryCmp.f k a0_0 a0_1 a0_2 a0_3 a0_4 a1_0 a1_1 a1_2 a1_3 a1_4 = some r) :
  Calls Try.prog 62 #[.agg #[.int .i64 a0_0, .int .i64 a0_1, .int .i64 a0_2, .int .i64 a0_3, .string a0_4], .agg #[.int .i64 a1_0, .int .i64 a1_1, .int .i64 a1_2, .int .i64 a1_3, .string a1_4]] w fun e w' => e = .returned (.int .i64 r) ∧ Below w.heap.size w w' := by
 have hu36 := Try.underlying36; have HB := zm (Below.refl w.heap.size w); have H : ((spec_l2Cmp.f a0_0 a1_0).bind fun AE => ((spec_l2Cmp.f a0_1 a1_1).bind fun AF => ((spec_l2Cmp.f a0_2 a1_2).bind fun AG => ((spec_l2Cmp.f a0_3 a1_3).bind fun AH => (spec_EntryCmp.l0 k (([AE, AF, AG, AH] : List Int)) 0 a0_0 a0_1 a0_2 a0_3 a0_4 a1_0 a1_1 a1_2 a1_3 a1_4))))) = some r := h; clear h; replace H := Option.bind_eq_some_iff.mp H; obtain ⟨AE, AW, H⟩ := H; (try dsimp only at H); have A3 := zm AW; clear AW; replace H := Option.bind_eq_some_iff.mp H; obtain ⟨AF, AX, H⟩ := H; (try dsimp only at H); have A4 := zm AX; clear AX; replace H := Option.bind_eq_some_iff.mp H; obtain ⟨AG, AY, H⟩ := H; (try dsimp only at H); have A5 := zm AY; clear AY; replace H := Option.bind_eq_some_iff.mp H; obtain ⟨AH, AZ, H⟩ := H; (try dsimp only at H); have A6 := zm AZ; clear AZ
 obtain ⟨y136, hy136⟩ : ∃ y_ : List Int, y_ = (([AE, AF, AG, AH] : List Int)) := ⟨_, rfl⟩
 replace H : (spec_EntryCmp.l0 k y136 0 a0_0 a0_1 a0_2 a0_3 a0_4 a1_0 a1_1 a1_2 a1_3 a1_4) = some r := by first | (rw [hy136]; with_reducible exact H) | (have H2_ := (Option.bind_some _ _).symm.trans H; rw [hy136]; with_reducible exact H2_) | (have H2_ := (Option.bind_some _ _).symm.trans H; with_reducible exact H2_) | with_reducible exact H | (rw [hy136]; exact H) | exact H
 have Ny136 := zm hy136; clear hy136
 have H' := zm H
 clear H; go_enter Try.func62, Try.ntmps62
 try go_wp2_with (first | ((with_reducible refine gate_dst (N := 2) rfl ?_); refine zbox 2 #[.int .i64 a0_0, .int .i64 a0_1, .int .i64 a0_2, .int .i64 a0_3, .string a0_4] 36 ?_; intro AI hg w7 hbox hb; have AB := zm (hbox); have BQ := zge w hg zB; have BO := zge w hg zB; replace HB := zm (below_step zB hb); clear hb hbox hg) | ((with_reducible refine gate_dst (N := 3) rfl ?_); refine zbox 3 #[.int .i64 a1_0, .int .i64 a1_1, .int .i64 a1_2, .int .i64 a1_3, .string a1_4] 36 ?_; intro AJ hg w8 hbox hb; have AC := zm (hbox); have BR := zge w hg zB; have BP := zge w hg zB; replace HB := zm (below_step zB hb); have AK := zlt hg (zb AB); have AL := zgt hg (zb AB); replace AB := zy AB hb; clear hb hbox hg))
 replace AB := zq AB; replace AC := zq AC; replace HB := zm (below_drew1 HB.out)
 refine start_ (n := 22) (S := fun w' => w'.cell? ⟨AI, 0, none⟩ = some (.int .i64 a0_0) ∧ w'.cell? ⟨AI, 1, none⟩ = some (.int .i64 a0_1) ∧ w'.cell? ⟨AI, 2, none⟩ = some (.int .i64 a0_2) ∧ w'.cell? ⟨AI, 3, none⟩ = some (.int .i64 a0_3) ∧ w'.cell? ⟨AI, 4, none⟩ = some (.string a0_4) ∧ w'.cell? ⟨AJ, 0, none⟩ = some (.int .i64 a1_0) ∧ w'.cell? ⟨AJ, 1, none⟩ = some (.int .i64 a1_1) ∧ w'.cell? ⟨AJ, 2, none⟩ = some (.int .i64 a1_2) ∧ w'.cell? ⟨AJ, 3, none⟩ = some (.int .i64 a1_3) ∧ w'.cell? ⟨AJ, 4, none⟩ = some (.string a1_4)) (ds := []) (zl 22 0) (by kernel_rfl) rfl rfl zS (fun hHeld => ?_); refine with_tabW spec_EntryCmp.tab1 spec_EntryCmp.bits1 (fun HT_ HW_ => ?_)
 generalize w8.drew = w9 at AB AC HB hHeld ⊢
 refine zu 0 7 22 1 ?_
 refine zu 2 9 22 5 ?_
 refine zu 5 12 22 37 ?_
 refine zu 7 14 22 165 ?_
 refine zu 10 17 22 1189 ?_
 refine zu 12 19 22 5285 ?_
 refine zu 15 22 22 38053 ?_
 refine zu 17 24 22 169125 ?_
 refine zv 1 8 22 169127 ?_
 refine zv 3 10 22 169135 ?_
 refine zv 6 13 22 169199 ?_
 refine zv 8 15 22 169455 ?_
 refine zv 11 18 22 171503 ?_
 refine zv 13 20 22 179695 ?_
 refine zv 16 23 22 245231 ?_
 refine zv 18 25 22 507375 ?_
 refine zo 4 (some 11) (zl 22 507391) (fun K hK => ?_); refine zgo #[.int .i64 a0_0, .int .i64 a1_0] Try.func101 ?_; (with_reducible refine (spec_l2Cmp.calls a0_0 a1_0 AE _ A3.out).mono ?_); rintro e w' ⟨rfl, ⟨nd, rfl⟩⟩; refine ⟨_, rfl, ?_⟩; refine hK.out _ _ zS (fun hHeld => ?_); clear hK K; refine zn ?_; refine zo 9 (some 16) (zl 22 507903) (fun K hK => ?_); refine zgo #[.int .i64 a0_1, .int .i64 a1_1] Try.func101 ?_; (with_reducible refine (spec_l2Cmp.calls a0_1 a1_1 AF _ A4.out).mono ?_); rintro e w' ⟨rfl, ⟨nd, rfl⟩⟩; refine ⟨_, rfl, ?_⟩; refine hK.out _ _ zS (fun hHeld => ?_); clear hK K; refine zn ?_; refine zo 14 (some 21) (zl 22 524287) (fun K hK => ?_); refine zgo #[.int .i64 a0_2, .int .i64 a1_2] Try.func101 ?_; (with_reducible refine (spec_l2Cmp.calls a0_2 a1_2 AG _ A5.out).mono ?_); rintro e w' ⟨rfl, ⟨nd, rfl⟩⟩; refine ⟨_, rfl, ?_⟩; refine hK.out _ _ zS (fun hHeld => ?_); clear hK K; refine zn ?_; refine zo 19 (some 26) (zl 22 1048575) (fun K hK => ?_); refine zgo #[.int .i64 a0_3, .int .i64 a1_3] Try.func101 ?_; (with_reducible refine (spec_l2Cmp.calls a0_3 a1_3 AH _ A6.out).mono ?_); rintro e w' ⟨rfl, ⟨nd, rfl⟩⟩; refine ⟨_, rfl, ?_⟩; refine hK.out _ _ zS (fun hHeld => ?_); clear hK K; refine zn ?_; refine zo 20 (some 27) (zl 22 2097151) (fun K hK => ?_)
 refine Kd.R_lit_step (Kd.int .i64) _ 3 ?hg (N := 27) ?hd (xs := ([AE, AF, AG, AH] : List Int)) (inner := [.int .i64 AE, .int .i64 AF, .int .i64 AG, .int .i64 AH]) (ok := fun _ => True) (okp := fun _ => True) ?hr ?hp (fun _ hk => hk) trivial (Below.refl _ _) (Nat.le_refl _) (by simp) ?_; (case hd => rfl); (case hg => rfl); (case hr => first | (go_simp; done) | (go_simp; rfl)); (case hp => exact (Reps.one (show Kd.M (Kd.int .i64) _ _ _ AE [.int .i64 AE] from rfl) (Reps.one (show Kd.M (Kd.int .i64) _ _ _ AF [.int .i64 AF] from rfl) (Reps.one (show Kd.M (Kd.int .i64) _ _ _ AG [.int .i64 AG] from rfl) (Reps.one (show Kd.M (Kd.int .i64) _ _ _ AH [.int .i64 AH] from rfl) (Reps.none _ _))))))
 intro v137 Bf ho11 hb hg_ hnew_; clear hg_ hnew_
 (first | rw [← Ny136.out] at ho11 | (simp only [Int.reduceToNat] at ho11; rw [← Ny136.out] at ho11))
 have AR := zm (Kd.R_lower ho11 (below_size zB)); replace AB := zy AB hb; replace AC := zy AC hb; replace HB := zm (below_step zB hb); clear hb ho11; refine hK.out _ _ zS (fun hHeld => ?_); clear hK K; refine zn (N := some 27) ?_
 refine zu 21 5 22 4194303 ?_
 refine done_ (done_of HT_.out (by kernel_rfl)) ?_
 try go_wp2
 go_loopg [6] k (fun kq v6 w' => ∃ (AA : Int), v6 = .int .i64 AA ∧ Aside0 (spec_EntryCmp.l0 kq y136 AA a0_0 a0_1 a0_2 a0_3 a0_4 a1_0 a1_1 a1_2 a1_3 a1_4 = some r) ∧ Aside0 (kq ≤ k) ∧ Aside0 (Kd.R (Kd.int .i64) 3 w' w.heap.size (fun _ => True) v137 y136) ∧ Aside0 (w'.heap[AI]? = some (.cells #[.int .i64 a0_0, .int .i64 a0_1, .int .i64 a0_2, .int .i64 a0_3, .string a0_4] 36 (0, 0))) ∧ Aside0 (w'.heap[AJ]? = some (.cells #[.int .i64 a1_0, .int .i64 a1_1, .int .i64 a1_2, .int .i64 a1_3, .string a1_4] 36 (0, 0))) ∧ Aside0 (Below w.heap.size w w'))
 case atStart => exact ⟨(0), zF, H', ⟨Nat.le_refl _⟩, ⟨zr AR⟩, ⟨zb AB⟩, ⟨zb AC⟩, ⟨zB⟩⟩
 case round =>
  clear H'; obtain ⟨AA, rfl, HA, Aa, AD, AB, AC, HB⟩ := hrel
  cases gk with
  | zero => exact absurd HA.out (by simp [spec_EntryCmp.l0])
  | succ k1 =>
   have H := HA.out; clear HA; simp only [spec_EntryCmp.l0] at H
   by_cases AN : AA < (y136.length : Int)
   ·rw [if_pos AN] at H; have AS : decide (AA < (y136.length : Int)) = true := decide_eq_true AN; clear AN
    by_cases AP : 0 ≤ AA
    ·rw [if_pos AP] at H; have BS : decide (0 ≤ AA) = true := decide_eq_true AP; clear AP
     by_cases AM : (rd y136 AA) = 0
     ·rw [if_pos AM] at H; have AT : ((rd y136 AA) == 0) = true := beq_iff_eq.mpr AM; have AU : ((rd y136 AA) != 0) = false := bne_eq_false_iff_eq.mpr AM; clear AM
      have H' := zm H
      clear H; obtain ⟨BX, Bb, eo15⟩ := Kd.R_slice AD.out; subst eo15; have p139 : 0 ≤ (AA : Int) := zd; have q139 : AA < (y136.length : Int) := zd; obtain ⟨ad139, e139, hx139_0⟩ := Kd.at_int (Kd.R_reads' AD.out).2.2 AA p139 q139; cases e139; replace p139 := eq_true p139; replace q139 := eq_true q139
      go_wp2
      go_roundg k1
      case measure => have := Aa.out; omega
      case rel => exact ⟨(wrap64 (AA + 1)), zF, H', ⟨by have := Aa.out; omega⟩, ⟨zr AD⟩, ⟨zb AB⟩, ⟨zb AC⟩, ⟨zB⟩⟩
     ·rw [if_neg AM] at H; have AT : ((rd y136 AA) == 0) = false := beq_eq_false_iff_ne.mpr AM; have AU : ((rd y136 AA) != 0) = true := bne_iff_ne.mpr AM; obtain rfl := Option.some.inj H; obtain ⟨BY, Bc, eo16⟩ := Kd.R_slice AD.out; subst eo16; have p139 : 0 ≤ (AA : Int) := zd; have q139 : AA < (y136.length : Int) := zd; obtain ⟨ad139, e139, hx139_0⟩ := Kd.at_int (Kd.R_reads' AD.out).2.2 AA p139 q139; cases e139; replace p139 := eq_true p139; replace q139 := eq_true q139; have p140 : 0 ≤ (AA : Int) := zd; have q140 : AA < (y136.length : Int) := zd; obtain ⟨ad140, e140, hx140_0⟩ := Kd.at_int (Kd.R_reads' AD.out).2.2 AA p140 q140
      obtain rfl : ad139 = ad140 := (by injection e140)
      replace p140 := eq_true p140; replace q140 := eq_true q140
      go_wp2
      go_ret
      exact ⟨zE, zB⟩
    ·rw [if_neg AP] at H
     exact absurd H (by simp)
   ·rw [if_neg AN] at H; have AS : decide (AA < (y136.length : Int)) = false := decide_eq_false AN; clear AN
    by_cases AO : (Op.bytesLess a0_4.toList a1_4.toList) = true
    ·rw [if_pos AO] at H; have AV : (Op.bytesLess a0_4.toList a1_4.toList) = true := AO; clear AO; obtain rfl := Option.some.inj H; obtain ⟨BZ, Bd, eo18⟩ := Kd.R_slice AD.out; subst eo18; have BT := AK.out; have BV := AL.out; obtain ⟨Ac, Ad, Ae, Af, Ag, Aw, Ax, Ay, Az, B0⟩ := zc5 AB; obtain ⟨Ah, Ai, Aj, Ak, Al, B2, B3, BA, BB, BC⟩ := zc5 AC
     go_wp2
     go_ret
     exact ⟨zE, zB⟩
    ·rw [if_neg AO] at H
     have AV : (Op.bytesLess a0_4.toList a1_4.toList) = false := by simpa using AO
     clear AO; replace H := Option.bind_eq_some_iff.mp H; obtain ⟨Ab, AQ, H⟩ := H; (try dsimp only at H); have BN := zm AQ; clear AQ; obtain rfl := Option.some.inj H; obtain ⟨Ba, Be, eo23⟩ := Kd.R_slice AD.out; subst eo23; have BU := AK.out; have BW := AL.out; obtain ⟨Am, An, Ao, Ap, Aq, BD, BE, BF, BG, BH⟩ := zc5 AB; obtain ⟨Ar, As, At, Au, Av, BI, BJ, BK, BL, BM⟩ := zc5 AC
     go_wp2_with (first | ((with_reducible refine gate_callee (f := 102) rfl ?_); refine zg (some 53) #[.bool (!(a0_4.toList == a1_4.toList))] Try.func102 ?_; (with_reducible refine (spec_l1Bit.calls (!(a0_4.toList == a1_4.toList)) Ab _ BN.out).mono ?_); rintro e w' ⟨rfl, ⟨nd, rfl⟩⟩; refine ⟨_, rfl, ?_⟩))
     go_ret
     exact ⟨zE, zB⟩

/-! ### spec_l1Max: function 89 -/
def spec_l1Max.f (a0 : Int) (a1 : Int) : Option (Int) := if a0 > a1 then (some a0) else (some a1)
set_option maxHeartbeats 8000000 in
set_option maxRecDepth 100000 in
theorem spec_l1Max.calls (a0 : Int) (a1 : Int) (r : Int) (w : World) (h : spec_l1Max.f a0 a1 = some r) :
  Calls Try.prog 89 #[.int .i64 a0, .int .i64 a1] w fun e w' => e = .returned (.int .i64 r) ∧ Drawn0 w w' := by
 have H : (if a0 > a1 then (some a0) else (some a1)) = some r := h; clear h
 by_cases c3 : a0 > a1
 ·rw [if_pos c3] at H; have AA : decide (a1 < a0) = true := decide_eq_true c3; clear c3; obtain rfl := Option.some.inj H; go_enter Try.func89, Try.ntmps89
  go_wp2
  go_ret
  exact ⟨zF, zD⟩
 ·rw [if_neg c3] at H; have AA : decide (a1 < a0) = false := decide_eq_false c3; clear c3; obtain rfl := Option.some.inj H; go_enter Try.func89, Try.ntmps89
  go_wp2
  go_ret
  exact ⟨zF, zD⟩

end Go.Proofs.Ytnmofppbijmhoaa.P
