-- by a program of this session, for this seat
import Derived.Test.YtgapdegniepjiaaZ
import Derived.Test.YtgapdegniepjiaaP0
import Derived.Test.YtgapdegniepjiaaPaa
namespace Go.Proofs.Ytgapdegniepjiaa.P
open Go.RowKit Go.Proofs.YtgapdegniepjiaaW.PrintWords Go.Proofs.YtgapdegniepjiaaW.PrintLast Go.Proofs.YtgapdegniepjiaaW.PrintMore Go.Proofs.Ytgapdegniepjiaa.Z
attribute [local go_sem] max2_int min2_int max_two min_two max_three min_three max_four min_four   -- for this text's walks alone
set_option linter.unusedVariables false
set_option linter.unusedSimpArgs false

/-! ### spec_StateOk: function 49 -/
mutual
def spec_StateOk.l0 : Nat → Int → List (S68) → List (S72) → Option (Bool)
 | 0, _, _, _ => none
 | k + 1, x3, x119000, x119001 => if x3 < (x119000.length : Int) then (if 0 ≤ x3 then ((spec_l3Node.f ((rd_T68 x119000 x3).f0)).bind fun t121 => (if t121 = true then (if x3 > 0 then (if 0 ≤ (wrap64 (x3 - 1)) then (if (wrap64 (x3 - 1)) < (x119000.length : Int) then (if ((rd_T68 x119000 x3).f0) ≤ ((rd_T68 x119000 (wrap64 (x3 - 1))).f0) then (some false) else ((spec_EntryOk.f ((rd_T68 x119000 x3).f1.f0) ((rd_T68 x119000 x3).f1.f1) ((rd_T68 x119000 x3).f1.f2) ((rd_T68 x119000 x3).f1.f3) ((rd_T68 x119000 x3).f1.f4)).bind fun t123 => (if t123 = true then ((spec_FloorOf.f k x119000 x119001 ((rd_T68 x119000 x3).f0)).bind fun t124 => (if ((rd_T68 x119000 x3).f1.f0) ≤ t124 then (some false) else (spec_StateOk.l0 k (wrap64 (x3 + 1)) x119000 x119001))) else (some false)))) else (none)) else (none)) else ((spec_EntryOk.f ((rd_T68 x119000 x3).f1.f0) ((rd_T68 x119000 x3).f1.f1) ((rd_T68 x119000 x3).f1.f2) ((rd_T68 x119000 x3).f1.f3) ((rd_T68 x119000 x3).f1.f4)).bind fun t125 => (if t125 = true then ((spec_FloorOf.f k x119000 x119001 ((rd_T68 x119000 x3).f0)).bind fun t126 => (if ((rd_T68 x119000 x3).f1.f0) ≤ t126 then (some false) else (spec_StateOk.l0 k (wrap64 (x3 + 1)) x119000 x119001))) else (some false)))) else (some false))) else (none)) else (spec_StateOk.l1 k 0 x119000 x119001)
def spec_StateOk.l1 : Nat → Int → List (S68) → List (S72) → Option (Bool)
 | 0, _, _, _ => none
 | k + 1, x5, x119000, x119001 => if x5 < (x119001.length : Int) then (if 0 ≤ x5 then ((spec_l3Node.f ((rd_T72 x119001 x5).f0)).bind fun t129 => (if t129 = true then (if x5 > 0 then (if 0 ≤ (wrap64 (x5 - 1)) then (if (wrap64 (x5 - 1)) < (x119001.length : Int) then (if ((rd_T72 x119001 x5).f0) ≤ ((rd_T72 x119001 (wrap64 (x5 - 1))).f0) then (some false) else ((spec_l1In.f ((rd_T72 x119001 x5).f1) 1 1000).bind fun t131 => (if t131 = true then (spec_StateOk.l1 k (wrap64 (x5 + 1)) x119000 x119001) else (some false)))) else (none)) else (none)) else ((spec_l1In.f ((rd_T72 x119001 x5).f1) 1 1000).bind fun t132 => (if t132 = true then (spec_StateOk.l1 k (wrap64 (x5 + 1)) x119000 x119001) else (some false)))) else (some false))) else (none)) else (some true)
end
def spec_StateOk.f (k : Nat) (l0_0 : List (S68)) (l0_1 : List (S72)) : Option (Bool) := spec_StateOk.l0 k 0 l0_0 l0_1
theorem spec_StateOk.mono_l : ∀ k, (∀ y0 y1 y2, LeO (spec_StateOk.l0 k y0 y1 y2) (spec_StateOk.l0 (k + 1) y0 y1 y2)) ∧ (∀ y0 y1 y2, LeO (spec_StateOk.l1 k y0 y1 y2) (spec_StateOk.l1 (k + 1) y0 y1 y2))
 | 0 => ⟨fun _ _ _ r h => by simp [spec_StateOk.l0] at h, fun _ _ _ r h => by simp [spec_StateOk.l1] at h⟩
 | k + 1 => by
  obtain ⟨ih0, ih1⟩ := spec_StateOk.mono_l k
  refine ⟨?_, ?_⟩
  ·intro y0 y1 y2
   unfold spec_StateOk.l0
   repeat' first | (with_reducible first | exact LeO.refl _ | exact LeO.none _ | refine LeO.ite ?_ ?_ | refine LeO.bind ?_ (fun _ => ?_) | apply ih0 | apply ih1 | apply spec_FloorOf.mono) | apply ih0 | apply ih1 | apply spec_FloorOf.mono | exact LeO.none _ | refine LeO.ite ?_ ?_ | refine LeO.bind ?_ (fun _ => ?_)
  ·intro y0 y1 y2
   unfold spec_StateOk.l1
   repeat' first | (with_reducible first | exact LeO.refl _ | exact LeO.none _ | refine LeO.ite ?_ ?_ | refine LeO.bind ?_ (fun _ => ?_) | apply ih0 | apply ih1 | apply spec_FloorOf.mono) | apply ih0 | apply ih1 | apply spec_FloorOf.mono | exact LeO.none _ | refine LeO.ite ?_ ?_ | refine LeO.bind ?_ (fun _ => ?_)
theorem spec_StateOk.mono : ∀ a0 a1 k, LeO (spec_StateOk.f k a0 a1) (spec_StateOk.f (k + 1) a0 a1) := by
 intro a0 a1 k; obtain ⟨ih0, ih1⟩ := spec_StateOk.mono_l k
 unfold spec_StateOk.f
 repeat' first | (with_reducible first | exact LeO.refl _ | exact LeO.none _ | refine LeO.ite ?_ ?_ | refine LeO.bind ?_ (fun _ => ?_) | apply ih0 | apply ih1 | apply spec_FloorOf.mono) | apply ih0 | apply ih1 | apply spec_FloorOf.mono | exact LeO.none _ | refine LeO.ite ?_ ?_ | refine LeO.bind ?_ (fun _ => ?_)
def spec_StateOk.T5 : Bool × List (List Nat × List Nat) := (true, [([], []), ([0], [0]), ([1], [1]), ([2], [2]), ([3, 2], [3]), ([4], [4]), ([5, 4], [4, 5]), ([6, 4, 4], [4, 6]), ([7], [7]), ([8, 7], [7, 8]), ([7], [7]), ([10, 7], [7, 10]), ([7], [7]), ([12, 7], [7, 12]), ([11, 13, 7], [7, 11, 13]), ([14, 7], [7, 14]), ([15, 7], [7, 15]), ([9, 16, 7], [7, 9, 16]), ([7, 17, 4], [4, 7, 17]), ([4, 18], [4, 18]), ([19, 7], [19]), ([20], [20]), ([21, 20], [20, 21]), ([22, 20, 20], [20, 22]), ([23, 20], [20, 23]), ([20, 24], [20, 24]), ([25, 23], [25]), ([26], [26]), ([27, 26], [26, 27]), ([28, 26], [26, 28]), ([26], [26]), ([26], [26]), ([31, 26], [26, 31]), ([30, 32, 26, 26], [26, 30, 32]), ([29, 33, 26], [26, 29, 33]), ([26, 34], [26, 34])])
def spec_StateOk.B5 : List Nat := [0, 1, 3, 7, 15, 31, 63, 127, 255, 511, 255, 1279, 255, 4351, 15615, 31999, 64767, 131071, 262143, 524287, 1048575, 2097151, 4194303, 8388607, 16777215, 33554431, 67108863, 134217727, 268435455, 536870911, 134217727, 134217727, 2281701375, 7650410495, 17179869183, 34359738367]
theorem spec_StateOk.tab5 : rtab .any (opsOf Try.f49 5) = spec_StateOk.T5 := by kernel_rfl
theorem spec_StateOk.bits5 : waitsOk spec_StateOk.T5.2 spec_StateOk.B5 = true := by kernel_rfl
def spec_StateOk.T11 : Bool × List (List Nat × List Nat) := (true, [([], []), ([0], [0]), ([1], [1]), ([2], [2]), ([3, 2], [3]), ([4], [4]), ([5, 4], [4, 5]), ([6, 4, 4], [4, 6]), ([7], [7]), ([8, 7], [7, 8]), ([7], [7]), ([10, 7], [7, 10]), ([7], [7]), ([12, 7], [7, 12]), ([11, 13, 7], [7, 11, 13]), ([14, 7], [7, 14]), ([15, 7], [7, 15]), ([9, 16, 7], [7, 9, 16]), ([7, 17, 4], [4, 7, 17]), ([4, 18], [4, 18]), ([19, 7], [19]), ([20], [20]), ([21, 20], [20, 21]), ([22, 20, 20], [20, 22]), ([23, 20], [20, 23]), ([20, 24], [20, 24])])
def spec_StateOk.B11 : List Nat := [0, 1, 3, 7, 15, 31, 63, 127, 255, 511, 255, 1279, 255, 4351, 15615, 31999, 64767, 131071, 262143, 524287, 1048575, 2097151, 4194303, 8388607, 16777215, 33554431]
theorem spec_StateOk.tab11 : rtab .any (opsOf Try.f49 11) = spec_StateOk.T11 := by kernel_rfl
theorem spec_StateOk.bits11 : waitsOk spec_StateOk.T11.2 spec_StateOk.B11 = true := by kernel_rfl
set_option maxHeartbeats 8000000 in
set_option maxRecDepth 100000 in
theorem spec_StateOk.calls (k : Nat) (A0_0 : Option Addr) (c0_0 : Nat) (l0_0 : List (S68)) (A0_1 : Option Addr) (c0_1 : Nat) (l0_1 : List (S72)) (r : Bool) (w : World) (hr0_0 : Kd.C k68 w A0_0 l0_0.length l0_0) (hc0_0 : l0_0.length ≤ c0_0) (hr0_1 : Kd.C k72 w A0_1 l0_1.length l0_1) (hc0_1 : l0_1.length ≤ c0_1) (h : spec_StateOk.f k l0_0 l0_1 = some r) :
  Calls Try.prog 49 #[.agg #[.slice A0_0 l0_0.length c0_0, .slice A0_1 l0_1.length c0_1]] w fun e w' => e = .returned (.bool r) ∧ Below w.heap.size w w' := by
 have hu32 := Try.underlying32; have hu68 := Try.underlying68; have hu66 := Try.underlying66; have hu72 := Try.underlying72; have HR0_0 := zm hr0_0; have HC0_0 := zm hc0_0; clear hr0_0 hc0_0; have HR0_1 := zm hr0_1; have HC0_1 := zm hc0_1; clear hr0_1 hc0_1; have HB := zm (Below.refl w.heap.size w); have H : (spec_StateOk.l0 k 0 l0_0 l0_1) = some r := h; clear h
 have H' := zm H
 clear H; go_enter Try.func49, Try.ntmps49
 go_wp2_with (first | (refine zbox 1 #[.slice A0_0 l0_0.length c0_0, .slice A0_1 l0_1.length c0_1] 32 ?_; intro gb118 hg w2 hbox hb; have BK118 := zm (hbox); have GW118 := zge w hg zB; have GE118 := zge w hg zB; replace HB := zm (below_step zB hb); clear hb hbox hg))
 go_loopg [3] k (fun kq v3 w' => ∃ (x3_1 : Int), v3 = .int .i64 x3_1 ∧ Aside0 (spec_StateOk.l0 kq x3_1 l0_0 l0_1 = some r) ∧ Aside0 (kq ≤ k) ∧ Aside0 (w'.heap[gb118]? = some (.cells #[(.slice A0_0 l0_0.length c0_0), (.slice A0_1 l0_1.length c0_1)] 32 (0, 0))) ∧ Aside0 (Below w.heap.size w w'))
 case atStart => exact ⟨(0), zF, H', ⟨Nat.le_refl _⟩, ⟨zb BK118⟩, ⟨zB⟩⟩
 case round =>
  clear H'; obtain ⟨x3_1, rfl, HA, HK1, BK118, HB⟩ := hrel
  cases gk with
  | zero => exact absurd HA.out (by simp [spec_StateOk.l0])
  | succ k1 =>
   have H := HA.out; clear HA; simp only [spec_StateOk.l0] at H
   by_cases c3 : x3_1 < (l0_0.length : Int)
   ·rw [if_pos c3] at H; have c3b0 : decide (x3_1 < (l0_0.length : Int)) = true := decide_eq_true c3; clear c3
    by_cases c4 : 0 ≤ x3_1
    ·rw [if_pos c4] at H; have c4b0 : decide (0 ≤ x3_1) = true := decide_eq_true c4; clear c4; replace H := Option.bind_eq_some_iff.mp H; obtain ⟨t121, A50, H⟩ := H; (try dsimp only at H); have A5 := zm A50; clear A50
     by_cases c6 : t121 = true
     ·subst c6; rw [if_pos rfl] at H
      by_cases c7 : x3_1 > 0
      ·rw [if_pos c7] at H; have c7b0 : decide (0 < x3_1) = true := decide_eq_true c7; clear c7
       obtain ⟨ji8, hji8⟩ : ∃ j_ : Int, (wrap64 (x3_1 - 1)) = j_ := ⟨_, rfl⟩
       replace H : (if 0 ≤ (ji8) then (if (ji8) < (l0_0.length : Int) then (if ((rd_T68 l0_0 x3_1).f0) ≤ ((rd_T68 l0_0 (ji8)).f0) then (some false) else ((spec_EntryOk.f ((rd_T68 l0_0 x3_1).f1.f0) ((rd_T68 l0_0 x3_1).f1.f1) ((rd_T68 l0_0 x3_1).f1.f2) ((rd_T68 l0_0 x3_1).f1.f3) ((rd_T68 l0_0 x3_1).f1.f4)).bind fun t123 => (if t123 = true then ((spec_FloorOf.f k1 l0_0 l0_1 ((rd_T68 l0_0 x3_1).f0)).bind fun t124 => (if ((rd_T68 l0_0 x3_1).f1.f0) ≤ t124 then (some false) else (spec_StateOk.l0 k1 (wrap64 (x3_1 + 1)) l0_0 l0_1))) else (some false)))) else (none)) else (none)) = some r := by first | (rw [hji8] at H; exact H) | (simp only [hji8] at H ⊢; exact H)
       (try rw [hji8] at A5)
       have hji8w : (IntKind.i64.wrap (x3_1 - 1)) = ji8 := (i64_w _).trans hji8
       by_cases c9 : 0 ≤ (ji8)
       ·rw [if_pos c9] at H; have c9b0 : decide (0 ≤ (ji8)) = true := decide_eq_true c9; clear c9
        by_cases c10 : (ji8) < (l0_0.length : Int)
        ·rw [if_pos c10] at H; have c10b0 : decide ((ji8) < (l0_0.length : Int)) = true := decide_eq_true c10; clear c10
         by_cases c11 : ((rd_T68 l0_0 x3_1).f0) ≤ ((rd_T68 l0_0 (ji8)).f0)
         ·rw [if_pos c11] at H; have c11b0 : decide (((rd_T68 l0_0 x3_1).f0) ≤ ((rd_T68 l0_0 (ji8)).f0)) = true := decide_eq_true c11; clear c11; obtain rfl := Option.some.inj H; obtain ⟨hcz12_0, hcz12_1, hfz12_0, hfz12_1⟩ := zc2 BK118; have p119 : 0 ≤ (x3_1 : Int) := zd; have q119 : x3_1 < (l0_0.length : Int) := zd; obtain ⟨ad119, e119, hx119_0, hx119_1, hx119_2, hx119_3, hx119_4, hx119_5⟩ := at_T68 (Kd.C_below HR0_0.out HB.out) x3_1 p119 q119; cases e119; replace p119 := eq_true p119; replace q119 := eq_true q119
          try go_wp2_with (first | (refine zbox 4 #[.int .i64 0, .int .i64 0, .int .i64 0, .int .i64 0, .int .i64 0, .string (⟨#[]⟩ : ByteArray)] 68 ?_; intro gb120 hg w13 hbox hb; have BK120 := zm (hbox); have GW120 := zge w hg zB; have GE120 := zge w hg zB; replace HB := zm (below_step zB hb); have NB118_120 := zlt hg (zb BK118); have NB120_118 := zgt hg (zb BK118); replace BK118 := zy BK118 hb; clear hb hbox hg; have hnb14 := NB120_118.out; have hnc14 := NB118_120.out; obtain ⟨hcz15_0, hcz15_1, hcz15_2, hcz15_3, hcz15_4, hcz15_5, hfz15_0, hfz15_1, hfz15_2, hfz15_3, hfz15_4, hfz15_5⟩ := zc6 BK120))
          obtain ⟨w16, hW_⟩ : ∃ q, q = ((((((w13.setCell ⟨gb120, 0, none⟩ (.int .i64 ((rd_T68 l0_0 x3_1).f0))).setCell ⟨gb120, 1, none⟩ (.int .i64 ((rd_T68 l0_0 x3_1).f1.f0))).setCell ⟨gb120, 2, none⟩ (.int .i64 ((rd_T68 l0_0 x3_1).f1.f1))).setCell ⟨gb120, 3, none⟩ (.int .i64 ((rd_T68 l0_0 x3_1).f1.f2))).setCell ⟨gb120, 4, none⟩ (.int .i64 ((rd_T68 l0_0 x3_1).f1.f3))).setCell ⟨gb120, 5, none⟩ (.string ((rd_T68 l0_0 x3_1).f1.f4))) := ⟨_, rfl⟩
          have n0_ : Aside0 (w16.heap[gb118]? = some (.cells #[.slice (some ad119) l0_0.length c0_0, .slice A0_1 l0_1.length c0_1] 32 (0, 0))) := ⟨by rw [hW_]; exact zfar (zfar (zfar (zfar (zfar (zfar (zb BK118) NB118_120) NB118_120) NB118_120) NB118_120) NB118_120) NB118_120⟩; have n1_ : Aside0 (w16.heap[gb120]? = some (.cells #[.int .i64 ((rd_T68 l0_0 x3_1).f0), .int .i64 ((rd_T68 l0_0 x3_1).f1.f0), .int .i64 ((rd_T68 l0_0 x3_1).f1.f1), .int .i64 ((rd_T68 l0_0 x3_1).f1.f2), .int .i64 ((rd_T68 l0_0 x3_1).f1.f3), .string ((rd_T68 l0_0 x3_1).f1.f4)] 68 (0, 0))) := ⟨by rw [hW_]; exact zput (zput (zput (zput (zput (zput (zb BK120) 0) 1) 2) 3) 4) 5⟩; have n2_ : Aside0 (Below w.heap.size w w16) := ⟨by rw [hW_]; exact zB⟩
          rw [← hW_]
          clear hW_; (try clear BK118); (try clear BK120); (try clear HB); have BK118 := n0_; have BK120 := n1_; have HB := n2_; clear n0_ n1_ n2_; replace BK118 := zq BK118; replace BK120 := zq BK120; replace HB := zm (below_drew1 HB.out); have p122 : 0 ≤ ((ji8) : Int) := zd; have q122 : (ji8) < (l0_0.length : Int) := zd; obtain ⟨ad122, e122, hx122_0, hx122_1, hx122_2, hx122_3, hx122_4, hx122_5⟩ := at_T68 HR0_0.out (ji8) p122 q122; have hw122_5 := hx122_5; have hw122_4 := hx122_4; have hw122_3 := hx122_3; have hw122_2 := hx122_2; have hw122_1 := hx122_1; have hw122_0 := hx122_0
          obtain rfl : ad119 = ad122 := (by injection e122)
          replace hx122_0 := zx HB hx122_0; replace hx122_1 := zx HB hx122_1; replace hx122_2 := zx HB hx122_2; replace hx122_3 := zx HB hx122_3; replace hx122_4 := zx HB hx122_4; replace hx122_5 := zx HB hx122_5; replace p122 := eq_true p122; replace q122 := eq_true q122
          refine start_ (n := 36) (S := fun w' => w'.cell? ⟨gb120, 0, none⟩ = some (.int .i64 ((rd_T68 l0_0 x3_1).f0)) ∧ w'.cell? ⟨gb120, 1, none⟩ = some (.int .i64 ((rd_T68 l0_0 x3_1).f1.f0)) ∧ w'.cell? ⟨gb120, 2, none⟩ = some (.int .i64 ((rd_T68 l0_0 x3_1).f1.f1)) ∧ w'.cell? ⟨gb120, 3, none⟩ = some (.int .i64 ((rd_T68 l0_0 x3_1).f1.f2)) ∧ w'.cell? ⟨gb120, 4, none⟩ = some (.int .i64 ((rd_T68 l0_0 x3_1).f1.f3)) ∧ w'.cell? ⟨gb120, 5, none⟩ = some (.string ((rd_T68 l0_0 x3_1).f1.f4)) ∧ w'.cell? ⟨gb118, 0, none⟩ = some (.slice (some ad119) l0_0.length c0_0) ∧ w'.cell? ⟨gb118, 1, none⟩ = some (.slice A0_1 l0_1.length c0_1) ∧ w'.cell? (ad119.add (((ji8)).toNat * 6)) = some (.int .i64 ((rd_T68 l0_0 (ji8)).f0)) ∧ w'.cell? ⟨(ad119.add (((ji8)).toNat * 6)).block, (ad119.add (((ji8)).toNat * 6)).off + 1, none⟩ = some (.int .i64 ((rd_T68 l0_0 (ji8)).f1.f0)) ∧ w'.cell? ⟨(ad119.add (((ji8)).toNat * 6)).block, (ad119.add (((ji8)).toNat * 6)).off + 2, none⟩ = some (.int .i64 ((rd_T68 l0_0 (ji8)).f1.f1)) ∧ w'.cell? ⟨(ad119.add (((ji8)).toNat * 6)).block, (ad119.add (((ji8)).toNat * 6)).off + 3, none⟩ = some (.int .i64 ((rd_T68 l0_0 (ji8)).f1.f2)) ∧ w'.cell? ⟨(ad119.add (((ji8)).toNat * 6)).block, (ad119.add (((ji8)).toNat * 6)).off + 4, none⟩ = some (.int .i64 ((rd_T68 l0_0 (ji8)).f1.f3)) ∧ w'.cell? ⟨(ad119.add (((ji8)).toNat * 6)).block, (ad119.add (((ji8)).toNat * 6)).off + 5, none⟩ = some (.string ((rd_T68 l0_0 (ji8)).f1.f4))) (ds := []) (zl 36 0) (by kernel_rfl) rfl rfl zS (fun hHeld => ?_); refine with_tabW spec_StateOk.tab5 spec_StateOk.bits5 (fun HT_ HW_ => ?_)
          generalize w16.drew = w17 at BK118 BK120 HB hx122_0 hx122_1 hx122_2 hx122_3 hx122_4 hx122_5 hHeld ⊢
          refine zu 0 19 36 1 ?_
          refine zv 1 20 36 3 ?_
          refine zo 2 (some 21) (zl 36 7) (fun K hK => ?_); refine zgo #[.int .i64 ((rd_T68 l0_0 x3_1).f0)] Try.func72 ?_; (with_reducible refine (spec_l3Node.calls ((rd_T68 l0_0 x3_1).f0) true _ A5.out).mono ?_); rintro e w' ⟨rfl, ⟨nd, rfl⟩⟩; refine ⟨_, rfl, ?_⟩; refine hK.out _ _ zS (fun hHeld => ?_); clear hK K; refine zn ?_
          refine zu 3 22 36 15 ?_
          refine zu 4 23 36 31 ?_
          refine zu 5 24 36 63 ?_
          refine zu 6 25 36 127 ?_
          refine zu 7 26 36 255 ?_
          refine zu 8 27 36 511 ?_
          refine zu 10 29 36 1535 ?_
          refine zu 12 31 36 5631 ?_
          refine zu 13 32 36 13823 ?_
          refine zv 9 28 36 14335 ?_
          refine zv 11 30 36 16383 ?_
          refine zu 14 33 36 32767 ?_
          refine zu 15 34 36 65535 ?_
          refine zv 16 35 36 131071 ?_
          refine zu 17 36 36 262143 ?_
          refine zu 18 37 36 524287 ?_
          refine zu 19 38 36 1048575 ?_
          refine zu 20 39 36 2097151 ?_
          refine zu 21 40 36 4194303 ?_
          refine zu 22 41 36 8388607 ?_
          refine zu 23 42 36 16777215 ?_
          refine zu 24 43 36 33554431 ?_
          refine zu 25 44 36 67108863 ?_
          refine zu 26 45 36 134217727 ?_
          refine zu 27 46 36 268435455 ?_
          refine zu 28 47 36 536870911 ?_
          refine zu 29 48 36 1073741823 ?_
          refine zu 30 49 36 2147483647 ?_
          refine zu 31 50 36 4294967295 ?_
          refine zu 32 51 36 8589934591 ?_
          refine zu 33 52 36 17179869183 ?_
          refine zu 34 53 36 34359738367 ?_
          refine zu 35 54 36 68719476735 ?_
          refine done_ (done_of HT_.out (by kernel_rfl)) ?_
          try go_wp2
          go_ret
          exact ⟨by first | rfl | (simp [errW_none, errW_some] <;> rfl) | (simp only [← hji8]; first | rfl | (simp [errW_none, errW_some] <;> rfl)) | (simp [*, errW_none, errW_some] <;> rfl), zB⟩
         ·rw [if_neg c11] at H; have c11b0 : decide (((rd_T68 l0_0 x3_1).f0) ≤ ((rd_T68 l0_0 (ji8)).f0)) = false := decide_eq_false c11; clear c11; replace H := Option.bind_eq_some_iff.mp H; obtain ⟨t123, A180, H⟩ := H; (try dsimp only at H); have A18 := zm A180; clear A180
          by_cases c19 : t123 = true
          ·subst c19; rw [if_pos rfl] at H; replace H := Option.bind_eq_some_iff.mp H; obtain ⟨t124, A200, H⟩ := H; (try dsimp only at H); have A20 := zm A200; clear A200
           by_cases c21 : ((rd_T68 l0_0 x3_1).f1.f0) ≤ t124
           ·rw [if_pos c21] at H; have c21b0 : decide (((rd_T68 l0_0 x3_1).f1.f0) ≤ t124) = true := decide_eq_true c21; clear c21; obtain rfl := Option.some.inj H; obtain ⟨hcz22_0, hcz22_1, hfz22_0, hfz22_1⟩ := zc2 BK118; have p119 : 0 ≤ (x3_1 : Int) := zd; have q119 : x3_1 < (l0_0.length : Int) := zd; obtain ⟨ad119, e119, hx119_0, hx119_1, hx119_2, hx119_3, hx119_4, hx119_5⟩ := at_T68 (Kd.C_below HR0_0.out HB.out) x3_1 p119 q119; cases e119; replace p119 := eq_true p119; replace q119 := eq_true q119
            try go_wp2_with (first | (refine zbox 4 #[.int .i64 0, .int .i64 0, .int .i64 0, .int .i64 0, .int .i64 0, .string (⟨#[]⟩ : ByteArray)] 68 ?_; intro gb120 hg w23 hbox hb; have BK120 := zm (hbox); have GW120 := zge w hg zB; have GE120 := zge w hg zB; replace HB := zm (below_step zB hb); have NB118_120 := zlt hg (zb BK118); have NB120_118 := zgt hg (zb BK118); replace BK118 := zy BK118 hb; clear hb hbox hg; have hnb24 := NB120_118.out; have hnc24 := NB118_120.out; obtain ⟨hcz25_0, hcz25_1, hcz25_2, hcz25_3, hcz25_4, hcz25_5, hfz25_0, hfz25_1, hfz25_2, hfz25_3, hfz25_4, hfz25_5⟩ := zc6 BK120))
            obtain ⟨w26, hW_⟩ : ∃ q, q = ((((((w23.setCell ⟨gb120, 0, none⟩ (.int .i64 ((rd_T68 l0_0 x3_1).f0))).setCell ⟨gb120, 1, none⟩ (.int .i64 ((rd_T68 l0_0 x3_1).f1.f0))).setCell ⟨gb120, 2, none⟩ (.int .i64 ((rd_T68 l0_0 x3_1).f1.f1))).setCell ⟨gb120, 3, none⟩ (.int .i64 ((rd_T68 l0_0 x3_1).f1.f2))).setCell ⟨gb120, 4, none⟩ (.int .i64 ((rd_T68 l0_0 x3_1).f1.f3))).setCell ⟨gb120, 5, none⟩ (.string ((rd_T68 l0_0 x3_1).f1.f4))) := ⟨_, rfl⟩
            have n0_ : Aside0 (w26.heap[gb118]? = some (.cells #[.slice (some ad119) l0_0.length c0_0, .slice A0_1 l0_1.length c0_1] 32 (0, 0))) := ⟨by rw [hW_]; exact zfar (zfar (zfar (zfar (zfar (zfar (zb BK118) NB118_120) NB118_120) NB118_120) NB118_120) NB118_120) NB118_120⟩; have n1_ : Aside0 (w26.heap[gb120]? = some (.cells #[.int .i64 ((rd_T68 l0_0 x3_1).f0), .int .i64 ((rd_T68 l0_0 x3_1).f1.f0), .int .i64 ((rd_T68 l0_0 x3_1).f1.f1), .int .i64 ((rd_T68 l0_0 x3_1).f1.f2), .int .i64 ((rd_T68 l0_0 x3_1).f1.f3), .string ((rd_T68 l0_0 x3_1).f1.f4)] 68 (0, 0))) := ⟨by rw [hW_]; exact zput (zput (zput (zput (zput (zput (zb BK120) 0) 1) 2) 3) 4) 5⟩; have n2_ : Aside0 (Below w.heap.size w w26) := ⟨by rw [hW_]; exact zB⟩
            rw [← hW_]
            clear hW_; (try clear BK118); (try clear BK120); (try clear HB); have BK118 := n0_; have BK120 := n1_; have HB := n2_; clear n0_ n1_ n2_; replace BK118 := zq BK118; replace BK120 := zq BK120; replace HB := zm (below_drew1 HB.out); have p122 : 0 ≤ ((ji8) : Int) := zd; have q122 : (ji8) < (l0_0.length : Int) := zd; obtain ⟨ad122, e122, hx122_0, hx122_1, hx122_2, hx122_3, hx122_4, hx122_5⟩ := at_T68 HR0_0.out (ji8) p122 q122; have hw122_5 := hx122_5; have hw122_4 := hx122_4; have hw122_3 := hx122_3; have hw122_2 := hx122_2; have hw122_1 := hx122_1; have hw122_0 := hx122_0
            obtain rfl : ad119 = ad122 := (by injection e122)
            replace hx122_0 := zx HB hx122_0; replace hx122_1 := zx HB hx122_1; replace hx122_2 := zx HB hx122_2; replace hx122_3 := zx HB hx122_3; replace hx122_4 := zx HB hx122_4; replace hx122_5 := zx HB hx122_5; replace p122 := eq_true p122; replace q122 := eq_true q122
            refine start_ (n := 36) (S := fun w' => w'.cell? ⟨gb120, 0, none⟩ = some (.int .i64 ((rd_T68 l0_0 x3_1).f0)) ∧ w'.cell? ⟨gb120, 1, none⟩ = some (.int .i64 ((rd_T68 l0_0 x3_1).f1.f0)) ∧ w'.cell? ⟨gb120, 2, none⟩ = some (.int .i64 ((rd_T68 l0_0 x3_1).f1.f1)) ∧ w'.cell? ⟨gb120, 3, none⟩ = some (.int .i64 ((rd_T68 l0_0 x3_1).f1.f2)) ∧ w'.cell? ⟨gb120, 4, none⟩ = some (.int .i64 ((rd_T68 l0_0 x3_1).f1.f3)) ∧ w'.cell? ⟨gb120, 5, none⟩ = some (.string ((rd_T68 l0_0 x3_1).f1.f4)) ∧ w'.cell? ⟨gb118, 0, none⟩ = some (.slice (some ad119) l0_0.length c0_0) ∧ w'.cell? ⟨gb118, 1, none⟩ = some (.slice A0_1 l0_1.length c0_1) ∧ w'.cell? (ad119.add (((ji8)).toNat * 6)) = some (.int .i64 ((rd_T68 l0_0 (ji8)).f0)) ∧ w'.cell? ⟨(ad119.add (((ji8)).toNat * 6)).block, (ad119.add (((ji8)).toNat * 6)).off + 1, none⟩ = some (.int .i64 ((rd_T68 l0_0 (ji8)).f1.f0)) ∧ w'.cell? ⟨(ad119.add (((ji8)).toNat * 6)).block, (ad119.add (((ji8)).toNat * 6)).off + 2, none⟩ = some (.int .i64 ((rd_T68 l0_0 (ji8)).f1.f1)) ∧ w'.cell? ⟨(ad119.add (((ji8)).toNat * 6)).block, (ad119.add (((ji8)).toNat * 6)).off + 3, none⟩ = some (.int .i64 ((rd_T68 l0_0 (ji8)).f1.f2)) ∧ w'.cell? ⟨(ad119.add (((ji8)).toNat * 6)).block, (ad119.add (((ji8)).toNat * 6)).off + 4, none⟩ = some (.int .i64 ((rd_T68 l0_0 (ji8)).f1.f3)) ∧ w'.cell? ⟨(ad119.add (((ji8)).toNat * 6)).block, (ad119.add (((ji8)).toNat * 6)).off + 5, none⟩ = some (.string ((rd_T68 l0_0 (ji8)).f1.f4))) (ds := []) (zl 36 0) (by kernel_rfl) rfl rfl zS (fun hHeld => ?_); refine with_tabW spec_StateOk.tab5 spec_StateOk.bits5 (fun HT_ HW_ => ?_)
            generalize w26.drew = w27 at BK118 BK120 HB hx122_0 hx122_1 hx122_2 hx122_3 hx122_4 hx122_5 hHeld ⊢
            refine zu 0 19 36 1 ?_
            refine zv 1 20 36 3 ?_
            refine zo 2 (some 21) (zl 36 7) (fun K hK => ?_); refine zgo #[.int .i64 ((rd_T68 l0_0 x3_1).f0)] Try.func72 ?_; (with_reducible refine (spec_l3Node.calls ((rd_T68 l0_0 x3_1).f0) true _ A5.out).mono ?_); rintro e w' ⟨rfl, ⟨nd, rfl⟩⟩; refine ⟨_, rfl, ?_⟩; refine hK.out _ _ zS (fun hHeld => ?_); clear hK K; refine zn ?_
            refine zu 3 22 36 15 ?_
            refine zu 4 23 36 31 ?_
            refine zu 5 24 36 63 ?_
            refine zu 6 25 36 127 ?_
            refine zu 7 26 36 255 ?_
            refine zu 8 27 36 511 ?_
            refine zu 10 29 36 1535 ?_
            refine zu 12 31 36 5631 ?_
            refine zu 13 32 36 13823 ?_
            refine zv 9 28 36 14335 ?_
            refine zv 11 30 36 16383 ?_
            refine zu 14 33 36 32767 ?_
            refine zu 15 34 36 65535 ?_
            refine zv 16 35 36 131071 ?_
            refine zu 17 36 36 262143 ?_
            refine zu 18 37 36 524287 ?_
            refine zu 19 38 36 1048575 ?_
            refine zu 20 39 36 2097151 ?_
            refine zu 21 40 36 4194303 ?_
            refine zv 22 41 36 8388607 ?_
            refine zo 23 (some 42) (zl 36 16777215) (fun K hK => ?_); refine zgo #[.agg #[.int .i64 ((rd_T68 l0_0 x3_1).f1.f0), .int .i64 ((rd_T68 l0_0 x3_1).f1.f1), .int .i64 ((rd_T68 l0_0 x3_1).f1.f2), .int .i64 ((rd_T68 l0_0 x3_1).f1.f3), .string ((rd_T68 l0_0 x3_1).f1.f4)]] Try.func89 ?_; (with_reducible refine (spec_EntryOk.calls ((rd_T68 l0_0 x3_1).f1.f0) ((rd_T68 l0_0 x3_1).f1.f1) ((rd_T68 l0_0 x3_1).f1.f2) ((rd_T68 l0_0 x3_1).f1.f3) ((rd_T68 l0_0 x3_1).f1.f4) true _ A18.out).mono ?_); rintro e w28 ⟨rfl, hb⟩; refine ⟨_, rfl, ?_⟩; replace BK118 := zy BK118 hb; replace BK120 := zy BK120 hb; replace HB := zm (below_step zB hb); (try clear hb); refine hK.out _ _ zS (fun hHeld => ?_); clear hK K; refine zn ?_
            refine zu 24 43 36 33554431 ?_
            refine zu 25 44 36 67108863 ?_
            refine zu 26 45 36 134217727 ?_
            refine zu 27 46 36 268435455 ?_
            refine zu 28 47 36 536870911 ?_
            refine zu 31 50 36 2684354559 ?_
            refine zv 29 48 36 3221225471 ?_
            refine zv 30 49 36 4294967295 ?_
            refine zv 32 51 36 8589934591 ?_
            refine zo 33 (some 52) (zl 36 17179869183) (fun K hK => ?_); refine zgo #[.agg #[.slice (some ad119) l0_0.length c0_0, .slice A0_1 l0_1.length c0_1], .int .i64 ((rd_T68 l0_0 x3_1).f0)] Try.func76 ?_; (with_reducible refine (spec_FloorOf.calls k1 _ _ l0_0 _ _ l0_1 ((rd_T68 l0_0 x3_1).f0) t124 _ (zk (Kd.C_below HR0_0.out HB.out)) HC0_0.out (zk (Kd.C_below HR0_1.out HB.out)) HC0_1.out A20.out).mono ?_); rintro e w29 ⟨rfl, hb⟩; refine ⟨_, rfl, ?_⟩; replace BK118 := zy BK118 hb; replace BK120 := zy BK120 hb; replace HB := zm (below_step zB hb); (try clear hb); refine hK.out _ _ zS (fun hHeld => ?_); clear hK K; refine zn ?_
            refine zu 34 53 36 34359738367 ?_
            refine zu 35 54 36 68719476735 ?_
            refine done_ (done_of HT_.out (by kernel_rfl)) ?_
            try go_wp2
            go_ret
            exact ⟨by first | rfl | (simp [errW_none, errW_some] <;> rfl) | (simp only [← hji8]; first | rfl | (simp [errW_none, errW_some] <;> rfl)) | (simp [*, errW_none, errW_some] <;> rfl), zB⟩
           ·rw [if_neg c21] at H; have c21b0 : decide (((rd_T68 l0_0 x3_1).f1.f0) ≤ t124) = false := decide_eq_false c21; clear c21
            have H' := zm H
            clear H; obtain ⟨hcz30_0, hcz30_1, hfz30_0, hfz30_1⟩ := zc2 BK118; have p119 : 0 ≤ (x3_1 : Int) := zd; have q119 : x3_1 < (l0_0.length : Int) := zd; obtain ⟨ad119, e119, hx119_0, hx119_1, hx119_2, hx119_3, hx119_4, hx119_5⟩ := at_T68 (Kd.C_below HR0_0.out HB.out) x3_1 p119 q119; cases e119; replace p119 := eq_true p119; replace q119 := eq_true q119
            try go_wp2_with (first | (refine zbox 4 #[.int .i64 0, .int .i64 0, .int .i64 0, .int .i64 0, .int .i64 0, .string (⟨#[]⟩ : ByteArray)] 68 ?_; intro gb120 hg w31 hbox hb; have BK120 := zm (hbox); have GW120 := zge w hg zB; have GE120 := zge w hg zB; replace HB := zm (below_step zB hb); have NB118_120 := zlt hg (zb BK118); have NB120_118 := zgt hg (zb BK118); replace BK118 := zy BK118 hb; clear hb hbox hg; have hnb32 := NB120_118.out; have hnc32 := NB118_120.out; obtain ⟨hcz33_0, hcz33_1, hcz33_2, hcz33_3, hcz33_4, hcz33_5, hfz33_0, hfz33_1, hfz33_2, hfz33_3, hfz33_4, hfz33_5⟩ := zc6 BK120))
            obtain ⟨w34, hW_⟩ : ∃ q, q = ((((((w31.setCell ⟨gb120, 0, none⟩ (.int .i64 ((rd_T68 l0_0 x3_1).f0))).setCell ⟨gb120, 1, none⟩ (.int .i64 ((rd_T68 l0_0 x3_1).f1.f0))).setCell ⟨gb120, 2, none⟩ (.int .i64 ((rd_T68 l0_0 x3_1).f1.f1))).setCell ⟨gb120, 3, none⟩ (.int .i64 ((rd_T68 l0_0 x3_1).f1.f2))).setCell ⟨gb120, 4, none⟩ (.int .i64 ((rd_T68 l0_0 x3_1).f1.f3))).setCell ⟨gb120, 5, none⟩ (.string ((rd_T68 l0_0 x3_1).f1.f4))) := ⟨_, rfl⟩
            have n0_ : Aside0 (w34.heap[gb118]? = some (.cells #[.slice (some ad119) l0_0.length c0_0, .slice A0_1 l0_1.length c0_1] 32 (0, 0))) := ⟨by rw [hW_]; exact zfar (zfar (zfar (zfar (zfar (zfar (zb BK118) NB118_120) NB118_120) NB118_120) NB118_120) NB118_120) NB118_120⟩; have n1_ : Aside0 (w34.heap[gb120]? = some (.cells #[.int .i64 ((rd_T68 l0_0 x3_1).f0), .int .i64 ((rd_T68 l0_0 x3_1).f1.f0), .int .i64 ((rd_T68 l0_0 x3_1).f1.f1), .int .i64 ((rd_T68 l0_0 x3_1).f1.f2), .int .i64 ((rd_T68 l0_0 x3_1).f1.f3), .string ((rd_T68 l0_0 x3_1).f1.f4)] 68 (0, 0))) := ⟨by rw [hW_]; exact zput (zput (zput (zput (zput (zput (zb BK120) 0) 1) 2) 3) 4) 5⟩; have n2_ : Aside0 (Below w.heap.size w w34) := ⟨by rw [hW_]; exact zB⟩
            rw [← hW_]
            clear hW_; (try clear BK118); (try clear BK120); (try clear HB); have BK118 := n0_; have BK120 := n1_; have HB := n2_; clear n0_ n1_ n2_; replace BK118 := zq BK118; replace BK120 := zq BK120; replace HB := zm (below_drew1 HB.out); have p122 : 0 ≤ ((ji8) : Int) := zd; have q122 : (ji8) < (l0_0.length : Int) := zd; obtain ⟨ad122, e122, hx122_0, hx122_1, hx122_2, hx122_3, hx122_4, hx122_5⟩ := at_T68 HR0_0.out (ji8) p122 q122; have hw122_5 := hx122_5; have hw122_4 := hx122_4; have hw122_3 := hx122_3; have hw122_2 := hx122_2; have hw122_1 := hx122_1; have hw122_0 := hx122_0
            obtain rfl : ad119 = ad122 := (by injection e122)
            replace hx122_0 := zx HB hx122_0; replace hx122_1 := zx HB hx122_1; replace hx122_2 := zx HB hx122_2; replace hx122_3 := zx HB hx122_3; replace hx122_4 := zx HB hx122_4; replace hx122_5 := zx HB hx122_5; replace p122 := eq_true p122; replace q122 := eq_true q122
            refine start_ (n := 36) (S := fun w' => w'.cell? ⟨gb120, 0, none⟩ = some (.int .i64 ((rd_T68 l0_0 x3_1).f0)) ∧ w'.cell? ⟨gb120, 1, none⟩ = some (.int .i64 ((rd_T68 l0_0 x3_1).f1.f0)) ∧ w'.cell? ⟨gb120, 2, none⟩ = some (.int .i64 ((rd_T68 l0_0 x3_1).f1.f1)) ∧ w'.cell? ⟨gb120, 3, none⟩ = some (.int .i64 ((rd_T68 l0_0 x3_1).f1.f2)) ∧ w'.cell? ⟨gb120, 4, none⟩ = some (.int .i64 ((rd_T68 l0_0 x3_1).f1.f3)) ∧ w'.cell? ⟨gb120, 5, none⟩ = some (.string ((rd_T68 l0_0 x3_1).f1.f4)) ∧ w'.cell? ⟨gb118, 0, none⟩ = some (.slice (some ad119) l0_0.length c0_0) ∧ w'.cell? ⟨gb118, 1, none⟩ = some (.slice A0_1 l0_1.length c0_1) ∧ w'.cell? (ad119.add (((ji8)).toNat * 6)) = some (.int .i64 ((rd_T68 l0_0 (ji8)).f0)) ∧ w'.cell? ⟨(ad119.add (((ji8)).toNat * 6)).block, (ad119.add (((ji8)).toNat * 6)).off + 1, none⟩ = some (.int .i64 ((rd_T68 l0_0 (ji8)).f1.f0)) ∧ w'.cell? ⟨(ad119.add (((ji8)).toNat * 6)).block, (ad119.add (((ji8)).toNat * 6)).off + 2, none⟩ = some (.int .i64 ((rd_T68 l0_0 (ji8)).f1.f1)) ∧ w'.cell? ⟨(ad119.add (((ji8)).toNat * 6)).block, (ad119.add (((ji8)).toNat * 6)).off + 3, none⟩ = some (.int .i64 ((rd_T68 l0_0 (ji8)).f1.f2)) ∧ w'.cell? ⟨(ad119.add (((ji8)).toNat * 6)).block, (ad119.add (((ji8)).toNat * 6)).off + 4, none⟩ = some (.int .i64 ((rd_T68 l0_0 (ji8)).f1.f3)) ∧ w'.cell? ⟨(ad119.add (((ji8)).toNat * 6)).block, (ad119.add (((ji8)).toNat * 6)).off + 5, none⟩ = some (.string ((rd_T68 l0_0 (ji8)).f1.f4))) (ds := []) (zl 36 0) (by kernel_rfl) rfl rfl zS (fun hHeld => ?_); refine with_tabW spec_StateOk.tab5 spec_StateOk.bits5 (fun HT_ HW_ => ?_)
            generalize w34.drew = w35 at BK118 BK120 HB hx122_0 hx122_1 hx122_2 hx122_3 hx122_4 hx122_5 hHeld ⊢
            refine zu 0 19 36 1 ?_
            refine zv 1 20 36 3 ?_
            refine zo 2 (some 21) (zl 36 7) (fun K hK => ?_); refine zgo #[.int .i64 ((rd_T68 l0_0 x3_1).f0)] Try.func72 ?_; (with_reducible refine (spec_l3Node.calls ((rd_T68 l0_0 x3_1).f0) true _ A5.out).mono ?_); rintro e w' ⟨rfl, ⟨nd, rfl⟩⟩; refine ⟨_, rfl, ?_⟩; refine hK.out _ _ zS (fun hHeld => ?_); clear hK K; refine zn ?_
            refine zu 3 22 36 15 ?_
            refine zu 4 23 36 31 ?_
            refine zu 5 24 36 63 ?_
            refine zu 6 25 36 127 ?_
            refine zu 7 26 36 255 ?_
            refine zu 8 27 36 511 ?_
            refine zu 10 29 36 1535 ?_
            refine zu 12 31 36 5631 ?_
            refine zu 13 32 36 13823 ?_
            refine zv 9 28 36 14335 ?_
            refine zv 11 30 36 16383 ?_
            refine zu 14 33 36 32767 ?_
            refine zu 15 34 36 65535 ?_
            refine zv 16 35 36 131071 ?_
            refine zu 17 36 36 262143 ?_
            refine zu 18 37 36 524287 ?_
            refine zu 19 38 36 1048575 ?_
            refine zu 20 39 36 2097151 ?_
            refine zu 21 40 36 4194303 ?_
            refine zv 22 41 36 8388607 ?_
            refine zo 23 (some 42) (zl 36 16777215) (fun K hK => ?_); refine zgo #[.agg #[.int .i64 ((rd_T68 l0_0 x3_1).f1.f0), .int .i64 ((rd_T68 l0_0 x3_1).f1.f1), .int .i64 ((rd_T68 l0_0 x3_1).f1.f2), .int .i64 ((rd_T68 l0_0 x3_1).f1.f3), .string ((rd_T68 l0_0 x3_1).f1.f4)]] Try.func89 ?_; (with_reducible refine (spec_EntryOk.calls ((rd_T68 l0_0 x3_1).f1.f0) ((rd_T68 l0_0 x3_1).f1.f1) ((rd_T68 l0_0 x3_1).f1.f2) ((rd_T68 l0_0 x3_1).f1.f3) ((rd_T68 l0_0 x3_1).f1.f4) true _ A18.out).mono ?_); rintro e w36 ⟨rfl, hb⟩; refine ⟨_, rfl, ?_⟩; replace BK118 := zy BK118 hb; replace BK120 := zy BK120 hb; replace HB := zm (below_step zB hb); (try clear hb); refine hK.out _ _ zS (fun hHeld => ?_); clear hK K; refine zn ?_
            refine zu 24 43 36 33554431 ?_
            refine zu 25 44 36 67108863 ?_
            refine zu 26 45 36 134217727 ?_
            refine zu 27 46 36 268435455 ?_
            refine zu 28 47 36 536870911 ?_
            refine zu 31 50 36 2684354559 ?_
            refine zv 29 48 36 3221225471 ?_
            refine zv 30 49 36 4294967295 ?_
            refine zv 32 51 36 8589934591 ?_
            refine zo 33 (some 52) (zl 36 17179869183) (fun K hK => ?_); refine zgo #[.agg #[.slice (some ad119) l0_0.length c0_0, .slice A0_1 l0_1.length c0_1], .int .i64 ((rd_T68 l0_0 x3_1).f0)] Try.func76 ?_; (with_reducible refine (spec_FloorOf.calls k1 _ _ l0_0 _ _ l0_1 ((rd_T68 l0_0 x3_1).f0) t124 _ (zk (Kd.C_below HR0_0.out HB.out)) HC0_0.out (zk (Kd.C_below HR0_1.out HB.out)) HC0_1.out A20.out).mono ?_); rintro e w37 ⟨rfl, hb⟩; refine ⟨_, rfl, ?_⟩; replace BK118 := zy BK118 hb; replace BK120 := zy BK120 hb; replace HB := zm (below_step zB hb); (try clear hb); refine hK.out _ _ zS (fun hHeld => ?_); clear hK K; refine zn ?_
            refine zu 34 53 36 34359738367 ?_
            refine zu 35 54 36 68719476735 ?_
            refine done_ (done_of HT_.out (by kernel_rfl)) ?_
            try go_wp2
            go_roundg k1
            case measure => have := HK1.out; omega
            case rel => exact ⟨(wrap64 (x3_1 + 1)), zF, H', ⟨by have := HK1.out; omega⟩, ⟨zb BK118⟩, ⟨zB⟩⟩
          ·replace c19 := Bool.eq_false_iff.mpr c19; subst c19; rw [zff] at H; obtain rfl := Option.some.inj H; obtain ⟨hcz38_0, hcz38_1, hfz38_0, hfz38_1⟩ := zc2 BK118; have p119 : 0 ≤ (x3_1 : Int) := zd; have q119 : x3_1 < (l0_0.length : Int) := zd; obtain ⟨ad119, e119, hx119_0, hx119_1, hx119_2, hx119_3, hx119_4, hx119_5⟩ := at_T68 (Kd.C_below HR0_0.out HB.out) x3_1 p119 q119; cases e119; replace p119 := eq_true p119; replace q119 := eq_true q119
           try go_wp2_with (first | (refine zbox 4 #[.int .i64 0, .int .i64 0, .int .i64 0, .int .i64 0, .int .i64 0, .string (⟨#[]⟩ : ByteArray)] 68 ?_; intro gb120 hg w39 hbox hb; have BK120 := zm (hbox); have GW120 := zge w hg zB; have GE120 := zge w hg zB; replace HB := zm (below_step zB hb); have NB118_120 := zlt hg (zb BK118); have NB120_118 := zgt hg (zb BK118); replace BK118 := zy BK118 hb; clear hb hbox hg; have hnb40 := NB120_118.out; have hnc40 := NB118_120.out; obtain ⟨hcz41_0, hcz41_1, hcz41_2, hcz41_3, hcz41_4, hcz41_5, hfz41_0, hfz41_1, hfz41_2, hfz41_3, hfz41_4, hfz41_5⟩ := zc6 BK120))
           obtain ⟨w42, hW_⟩ : ∃ q, q = ((((((w39.setCell ⟨gb120, 0, none⟩ (.int .i64 ((rd_T68 l0_0 x3_1).f0))).setCell ⟨gb120, 1, none⟩ (.int .i64 ((rd_T68 l0_0 x3_1).f1.f0))).setCell ⟨gb120, 2, none⟩ (.int .i64 ((rd_T68 l0_0 x3_1).f1.f1))).setCell ⟨gb120, 3, none⟩ (.int .i64 ((rd_T68 l0_0 x3_1).f1.f2))).setCell ⟨gb120, 4, none⟩ (.int .i64 ((rd_T68 l0_0 x3_1).f1.f3))).setCell ⟨gb120, 5, none⟩ (.string ((rd_T68 l0_0 x3_1).f1.f4))) := ⟨_, rfl⟩
           have n0_ : Aside0 (w42.heap[gb118]? = some (.cells #[.slice (some ad119) l0_0.length c0_0, .slice A0_1 l0_1.length c0_1] 32 (0, 0))) := ⟨by rw [hW_]; exact zfar (zfar (zfar (zfar (zfar (zfar (zb BK118) NB118_120) NB118_120) NB118_120) NB118_120) NB118_120) NB118_120⟩; have n1_ : Aside0 (w42.heap[gb120]? = some (.cells #[.int .i64 ((rd_T68 l0_0 x3_1).f0), .int .i64 ((rd_T68 l0_0 x3_1).f1.f0), .int .i64 ((rd_T68 l0_0 x3_1).f1.f1), .int .i64 ((rd_T68 l0_0 x3_1).f1.f2), .int .i64 ((rd_T68 l0_0 x3_1).f1.f3), .string ((rd_T68 l0_0 x3_1).f1.f4)] 68 (0, 0))) := ⟨by rw [hW_]; exact zput (zput (zput (zput (zput (zput (zb BK120) 0) 1) 2) 3) 4) 5⟩; have n2_ : Aside0 (Below w.heap.size w w42) := ⟨by rw [hW_]; exact zB⟩
           rw [← hW_]
           clear hW_; (try clear BK118); (try clear BK120); (try clear HB); have BK118 := n0_; have BK120 := n1_; have HB := n2_; clear n0_ n1_ n2_; replace BK118 := zq BK118; replace BK120 := zq BK120; replace HB := zm (below_drew1 HB.out); have p122 : 0 ≤ ((ji8) : Int) := zd; have q122 : (ji8) < (l0_0.length : Int) := zd; obtain ⟨ad122, e122, hx122_0, hx122_1, hx122_2, hx122_3, hx122_4, hx122_5⟩ := at_T68 HR0_0.out (ji8) p122 q122; have hw122_5 := hx122_5; have hw122_4 := hx122_4; have hw122_3 := hx122_3; have hw122_2 := hx122_2; have hw122_1 := hx122_1; have hw122_0 := hx122_0
           obtain rfl : ad119 = ad122 := (by injection e122)
           replace hx122_0 := zx HB hx122_0; replace hx122_1 := zx HB hx122_1; replace hx122_2 := zx HB hx122_2; replace hx122_3 := zx HB hx122_3; replace hx122_4 := zx HB hx122_4; replace hx122_5 := zx HB hx122_5; replace p122 := eq_true p122; replace q122 := eq_true q122
           refine start_ (n := 36) (S := fun w' => w'.cell? ⟨gb120, 0, none⟩ = some (.int .i64 ((rd_T68 l0_0 x3_1).f0)) ∧ w'.cell? ⟨gb120, 1, none⟩ = some (.int .i64 ((rd_T68 l0_0 x3_1).f1.f0)) ∧ w'.cell? ⟨gb120, 2, none⟩ = some (.int .i64 ((rd_T68 l0_0 x3_1).f1.f1)) ∧ w'.cell? ⟨gb120, 3, none⟩ = some (.int .i64 ((rd_T68 l0_0 x3_1).f1.f2)) ∧ w'.cell? ⟨gb120, 4, none⟩ = some (.int .i64 ((rd_T68 l0_0 x3_1).f1.f3)) ∧ w'.cell? ⟨gb120, 5, none⟩ = some (.string ((rd_T68 l0_0 x3_1).f1.f4)) ∧ w'.cell? ⟨gb118, 0, none⟩ = some (.slice (some ad119) l0_0.length c0_0) ∧ w'.cell? ⟨gb118, 1, none⟩ = some (.slice A0_1 l0_1.length c0_1) ∧ w'.cell? (ad119.add (((ji8)).toNat * 6)) = some (.int .i64 ((rd_T68 l0_0 (ji8)).f0)) ∧ w'.cell? ⟨(ad119.add (((ji8)).toNat * 6)).block, (ad119.add (((ji8)).toNat * 6)).off + 1, none⟩ = some (.int .i64 ((rd_T68 l0_0 (ji8)).f1.f0)) ∧ w'.cell? ⟨(ad119.add (((ji8)).toNat * 6)).block, (ad119.add (((ji8)).toNat * 6)).off + 2, none⟩ = some (.int .i64 ((rd_T68 l0_0 (ji8)).f1.f1)) ∧ w'.cell? ⟨(ad119.add (((ji8)).toNat * 6)).block, (ad119.add (((ji8)).toNat * 6)).off + 3, none⟩ = some (.int .i64 ((rd_T68 l0_0 (ji8)).f1.f2)) ∧ w'.cell? ⟨(ad119.add (((ji8)).toNat * 6)).block, (ad119.add (((ji8)).toNat * 6)).off + 4, none⟩ = some (.int .i64 ((rd_T68 l0_0 (ji8)).f1.f3)) ∧ w'.cell? ⟨(ad119.add (((ji8)).toNat * 6)).block, (ad119.add (((ji8)).toNat * 6)).off + 5, none⟩ = some (.string ((rd_T68 l0_0 (ji8)).f1.f4))) (ds := []) (zl 36 0) (by kernel_rfl) rfl rfl zS (fun hHeld => ?_); refine with_tabW spec_StateOk.tab5 spec_StateOk.bits5 (fun HT_ HW_ => ?_)
           generalize w42.drew = w43 at BK118 BK120 HB hx122_0 hx122_1 hx122_2 hx122_3 hx122_4 hx122_5 hHeld ⊢
           refine zu 0 19 36 1 ?_
           refine zv 1 20 36 3 ?_
           refine zo 2 (some 21) (zl 36 7) (fun K hK => ?_); refine zgo #[.int .i64 ((rd_T68 l0_0 x3_1).f0)] Try.func72 ?_; (with_reducible refine (spec_l3Node.calls ((rd_T68 l0_0 x3_1).f0) true _ A5.out).mono ?_); rintro e w' ⟨rfl, ⟨nd, rfl⟩⟩; refine ⟨_, rfl, ?_⟩; refine hK.out _ _ zS (fun hHeld => ?_); clear hK K; refine zn ?_
           refine zu 3 22 36 15 ?_
           refine zu 4 23 36 31 ?_
           refine zu 5 24 36 63 ?_
           refine zu 6 25 36 127 ?_
           refine zu 7 26 36 255 ?_
           refine zu 8 27 36 511 ?_
           refine zu 10 29 36 1535 ?_
           refine zu 12 31 36 5631 ?_
           refine zu 13 32 36 13823 ?_
           refine zv 9 28 36 14335 ?_
           refine zv 11 30 36 16383 ?_
           refine zu 14 33 36 32767 ?_
           refine zu 15 34 36 65535 ?_
           refine zv 16 35 36 131071 ?_
           refine zu 17 36 36 262143 ?_
           refine zu 18 37 36 524287 ?_
           refine zu 19 38 36 1048575 ?_
           refine zu 20 39 36 2097151 ?_
           refine zu 21 40 36 4194303 ?_
           refine zv 22 41 36 8388607 ?_
           refine zo 23 (some 42) (zl 36 16777215) (fun K hK => ?_); refine zgo #[.agg #[.int .i64 ((rd_T68 l0_0 x3_1).f1.f0), .int .i64 ((rd_T68 l0_0 x3_1).f1.f1), .int .i64 ((rd_T68 l0_0 x3_1).f1.f2), .int .i64 ((rd_T68 l0_0 x3_1).f1.f3), .string ((rd_T68 l0_0 x3_1).f1.f4)]] Try.func89 ?_; (with_reducible refine (spec_EntryOk.calls ((rd_T68 l0_0 x3_1).f1.f0) ((rd_T68 l0_0 x3_1).f1.f1) ((rd_T68 l0_0 x3_1).f1.f2) ((rd_T68 l0_0 x3_1).f1.f3) ((rd_T68 l0_0 x3_1).f1.f4) false _ A18.out).mono ?_); rintro e w44 ⟨rfl, hb⟩; refine ⟨_, rfl, ?_⟩; replace BK118 := zy BK118 hb; replace BK120 := zy BK120 hb; replace HB := zm (below_step zB hb); (try clear hb); refine hK.out _ _ zS (fun hHeld => ?_); clear hK K; refine zn ?_
           refine zu 24 43 36 33554431 ?_
           refine zu 25 44 36 67108863 ?_
           refine zu 26 45 36 134217727 ?_
           refine zu 27 46 36 268435455 ?_
           refine zu 28 47 36 536870911 ?_
           refine zu 29 48 36 1073741823 ?_
           refine zu 30 49 36 2147483647 ?_
           refine zu 31 50 36 4294967295 ?_
           refine zu 32 51 36 8589934591 ?_
           refine zu 33 52 36 17179869183 ?_
           refine zu 34 53 36 34359738367 ?_
           refine zu 35 54 36 68719476735 ?_
           refine done_ (done_of HT_.out (by kernel_rfl)) ?_
           try go_wp2
           go_ret
           exact ⟨by first | rfl | (simp [errW_none, errW_some] <;> rfl) | (simp only [← hji8]; first | rfl | (simp [errW_none, errW_some] <;> rfl)) | (simp [*, errW_none, errW_some] <;> rfl), zB⟩
        ·rw [if_neg c10] at H
         exact absurd H (by simp)
       ·rw [if_neg c9] at H
        exact absurd H (by simp)
      ·rw [if_neg c7] at H; have c7b0 : decide (0 < x3_1) = false := decide_eq_false c7; clear c7; replace H := Option.bind_eq_some_iff.mp H; obtain ⟨t125, A450, H⟩ := H; (try dsimp only at H); have A45 := zm A450; clear A450
       by_cases c46 : t125 = true
       ·subst c46; rw [if_pos rfl] at H; replace H := Option.bind_eq_some_iff.mp H; obtain ⟨t126, A470, H⟩ := H; (try dsimp only at H); have A47 := zm A470; clear A470
        by_cases c48 : ((rd_T68 l0_0 x3_1).f1.f0) ≤ t126
        ·rw [if_pos c48] at H; have c48b0 : decide (((rd_T68 l0_0 x3_1).f1.f0) ≤ t126) = true := decide_eq_true c48; clear c48; obtain rfl := Option.some.inj H; obtain ⟨hcz49_0, hcz49_1, hfz49_0, hfz49_1⟩ := zc2 BK118; have p119 : 0 ≤ (x3_1 : Int) := zd; have q119 : x3_1 < (l0_0.length : Int) := zd; obtain ⟨ad119, e119, hx119_0, hx119_1, hx119_2, hx119_3, hx119_4, hx119_5⟩ := at_T68 (Kd.C_below HR0_0.out HB.out) x3_1 p119 q119; cases e119; replace p119 := eq_true p119; replace q119 := eq_true q119
         try go_wp2_with (first | (refine zbox 4 #[.int .i64 0, .int .i64 0, .int .i64 0, .int .i64 0, .int .i64 0, .string (⟨#[]⟩ : ByteArray)] 68 ?_; intro gb120 hg w50 hbox hb; have BK120 := zm (hbox); have GW120 := zge w hg zB; have GE120 := zge w hg zB; replace HB := zm (below_step zB hb); have NB118_120 := zlt hg (zb BK118); have NB120_118 := zgt hg (zb BK118); replace BK118 := zy BK118 hb; clear hb hbox hg; have hnb51 := NB120_118.out; have hnc51 := NB118_120.out; obtain ⟨hcz52_0, hcz52_1, hcz52_2, hcz52_3, hcz52_4, hcz52_5, hfz52_0, hfz52_1, hfz52_2, hfz52_3, hfz52_4, hfz52_5⟩ := zc6 BK120))
         obtain ⟨w53, hW_⟩ : ∃ q, q = ((((((w50.setCell ⟨gb120, 0, none⟩ (.int .i64 ((rd_T68 l0_0 x3_1).f0))).setCell ⟨gb120, 1, none⟩ (.int .i64 ((rd_T68 l0_0 x3_1).f1.f0))).setCell ⟨gb120, 2, none⟩ (.int .i64 ((rd_T68 l0_0 x3_1).f1.f1))).setCell ⟨gb120, 3, none⟩ (.int .i64 ((rd_T68 l0_0 x3_1).f1.f2))).setCell ⟨gb120, 4, none⟩ (.int .i64 ((rd_T68 l0_0 x3_1).f1.f3))).setCell ⟨gb120, 5, none⟩ (.string ((rd_T68 l0_0 x3_1).f1.f4))) := ⟨_, rfl⟩
         have n0_ : Aside0 (w53.heap[gb118]? = some (.cells #[.slice (some ad119) l0_0.length c0_0, .slice A0_1 l0_1.length c0_1] 32 (0, 0))) := ⟨by rw [hW_]; exact zfar (zfar (zfar (zfar (zfar (zfar (zb BK118) NB118_120) NB118_120) NB118_120) NB118_120) NB118_120) NB118_120⟩; have n1_ : Aside0 (w53.heap[gb120]? = some (.cells #[.int .i64 ((rd_T68 l0_0 x3_1).f0), .int .i64 ((rd_T68 l0_0 x3_1).f1.f0), .int .i64 ((rd_T68 l0_0 x3_1).f1.f1), .int .i64 ((rd_T68 l0_0 x3_1).f1.f2), .int .i64 ((rd_T68 l0_0 x3_1).f1.f3), .string ((rd_T68 l0_0 x3_1).f1.f4)] 68 (0, 0))) := ⟨by rw [hW_]; exact zput (zput (zput (zput (zput (zput (zb BK120) 0) 1) 2) 3) 4) 5⟩; have n2_ : Aside0 (Below w.heap.size w w53) := ⟨by rw [hW_]; exact zB⟩
         rw [← hW_]
         clear hW_; (try clear BK118); (try clear BK120); (try clear HB); have BK118 := n0_; have BK120 := n1_; have HB := n2_; clear n0_ n1_ n2_; replace BK118 := zq BK118; replace BK120 := zq BK120; replace HB := zm (below_drew1 HB.out)
         refine start_ (n := 36) (S := fun w' => w'.cell? ⟨gb120, 0, none⟩ = some (.int .i64 ((rd_T68 l0_0 x3_1).f0)) ∧ w'.cell? ⟨gb120, 1, none⟩ = some (.int .i64 ((rd_T68 l0_0 x3_1).f1.f0)) ∧ w'.cell? ⟨gb120, 2, none⟩ = some (.int .i64 ((rd_T68 l0_0 x3_1).f1.f1)) ∧ w'.cell? ⟨gb120, 3, none⟩ = some (.int .i64 ((rd_T68 l0_0 x3_1).f1.f2)) ∧ w'.cell? ⟨gb120, 4, none⟩ = some (.int .i64 ((rd_T68 l0_0 x3_1).f1.f3)) ∧ w'.cell? ⟨gb120, 5, none⟩ = some (.string ((rd_T68 l0_0 x3_1).f1.f4)) ∧ w'.cell? ⟨gb118, 0, none⟩ = some (.slice (some ad119) l0_0.length c0_0) ∧ w'.cell? ⟨gb118, 1, none⟩ = some (.slice A0_1 l0_1.length c0_1)) (ds := []) (zl 36 0) (by kernel_rfl) rfl rfl zS (fun hHeld => ?_); refine with_tabW spec_StateOk.tab5 spec_StateOk.bits5 (fun HT_ HW_ => ?_)
         generalize w53.drew = w54 at BK118 BK120 HB hHeld ⊢
         refine zu 0 19 36 1 ?_
         refine zv 1 20 36 3 ?_
         refine zo 2 (some 21) (zl 36 7) (fun K hK => ?_); refine zgo #[.int .i64 ((rd_T68 l0_0 x3_1).f0)] Try.func72 ?_; (with_reducible refine (spec_l3Node.calls ((rd_T68 l0_0 x3_1).f0) true _ A5.out).mono ?_); rintro e w' ⟨rfl, ⟨nd, rfl⟩⟩; refine ⟨_, rfl, ?_⟩; refine hK.out _ _ zS (fun hHeld => ?_); clear hK K; refine zn ?_
         refine zu 3 22 36 15 ?_
         refine zu 4 23 36 31 ?_
         refine zu 5 24 36 63 ?_
         refine zu 6 25 36 127 ?_
         refine zu 7 26 36 255 ?_
         refine zu 8 27 36 511 ?_
         refine zu 9 28 36 1023 ?_
         refine zu 10 29 36 2047 ?_
         refine zu 11 30 36 4095 ?_
         refine zu 12 31 36 8191 ?_
         refine zu 13 32 36 16383 ?_
         refine zu 14 33 36 32767 ?_
         refine zu 15 34 36 65535 ?_
         refine zu 16 35 36 131071 ?_
         refine zu 17 36 36 262143 ?_
         refine zu 18 37 36 524287 ?_
         refine zu 19 38 36 1048575 ?_
         refine zu 20 39 36 2097151 ?_
         refine zu 21 40 36 4194303 ?_
         refine zv 22 41 36 8388607 ?_
         refine zo 23 (some 42) (zl 36 16777215) (fun K hK => ?_); refine zgo #[.agg #[.int .i64 ((rd_T68 l0_0 x3_1).f1.f0), .int .i64 ((rd_T68 l0_0 x3_1).f1.f1), .int .i64 ((rd_T68 l0_0 x3_1).f1.f2), .int .i64 ((rd_T68 l0_0 x3_1).f1.f3), .string ((rd_T68 l0_0 x3_1).f1.f4)]] Try.func89 ?_; (with_reducible refine (spec_EntryOk.calls ((rd_T68 l0_0 x3_1).f1.f0) ((rd_T68 l0_0 x3_1).f1.f1) ((rd_T68 l0_0 x3_1).f1.f2) ((rd_T68 l0_0 x3_1).f1.f3) ((rd_T68 l0_0 x3_1).f1.f4) true _ A45.out).mono ?_); rintro e w55 ⟨rfl, hb⟩; refine ⟨_, rfl, ?_⟩; replace BK118 := zy BK118 hb; replace BK120 := zy BK120 hb; replace HB := zm (below_step zB hb); (try clear hb); refine hK.out _ _ zS (fun hHeld => ?_); clear hK K; refine zn ?_
         refine zu 24 43 36 33554431 ?_
         refine zu 25 44 36 67108863 ?_
         refine zu 26 45 36 134217727 ?_
         refine zu 27 46 36 268435455 ?_
         refine zu 28 47 36 536870911 ?_
         refine zu 31 50 36 2684354559 ?_
         refine zv 29 48 36 3221225471 ?_
         refine zv 30 49 36 4294967295 ?_
         refine zv 32 51 36 8589934591 ?_
         refine zo 33 (some 52) (zl 36 17179869183) (fun K hK => ?_); refine zgo #[.agg #[.slice (some ad119) l0_0.length c0_0, .slice A0_1 l0_1.length c0_1], .int .i64 ((rd_T68 l0_0 x3_1).f0)] Try.func76 ?_; (with_reducible refine (spec_FloorOf.calls k1 _ _ l0_0 _ _ l0_1 ((rd_T68 l0_0 x3_1).f0) t126 _ (zk (Kd.C_below HR0_0.out HB.out)) HC0_0.out (zk (Kd.C_below HR0_1.out HB.out)) HC0_1.out A47.out).mono ?_); rintro e w56 ⟨rfl, hb⟩; refine ⟨_, rfl, ?_⟩; replace BK118 := zy BK118 hb; replace BK120 := zy BK120 hb; replace HB := zm (below_step zB hb); (try clear hb); refine hK.out _ _ zS (fun hHeld => ?_); clear hK K; refine zn ?_
         refine zu 34 53 36 34359738367 ?_
         refine zu 35 54 36 68719476735 ?_
         refine done_ (done_of HT_.out (by kernel_rfl)) ?_
         try go_wp2
         go_ret
         exact ⟨zE, zB⟩
        ·rw [if_neg c48] at H; have c48b0 : decide (((rd_T68 l0_0 x3_1).f1.f0) ≤ t126) = false := decide_eq_false c48; clear c48
         have H' := zm H
         clear H; obtain ⟨hcz57_0, hcz57_1, hfz57_0, hfz57_1⟩ := zc2 BK118; have p119 : 0 ≤ (x3_1 : Int) := zd; have q119 : x3_1 < (l0_0.length : Int) := zd; obtain ⟨ad119, e119, hx119_0, hx119_1, hx119_2, hx119_3, hx119_4, hx119_5⟩ := at_T68 (Kd.C_below HR0_0.out HB.out) x3_1 p119 q119; cases e119; replace p119 := eq_true p119; replace q119 := eq_true q119
         try go_wp2_with (first | (refine zbox 4 #[.int .i64 0, .int .i64 0, .int .i64 0, .int .i64 0, .int .i64 0, .string (⟨#[]⟩ : ByteArray)] 68 ?_; intro gb120 hg w58 hbox hb; have BK120 := zm (hbox); have GW120 := zge w hg zB; have GE120 := zge w hg zB; replace HB := zm (below_step zB hb); have NB118_120 := zlt hg (zb BK118); have NB120_118 := zgt hg (zb BK118); replace BK118 := zy BK118 hb; clear hb hbox hg; have hnb59 := NB120_118.out; have hnc59 := NB118_120.out; obtain ⟨hcz60_0, hcz60_1, hcz60_2, hcz60_3, hcz60_4, hcz60_5, hfz60_0, hfz60_1, hfz60_2, hfz60_3, hfz60_4, hfz60_5⟩ := zc6 BK120))
         obtain ⟨w61, hW_⟩ : ∃ q, q = ((((((w58.setCell ⟨gb120, 0, none⟩ (.int .i64 ((rd_T68 l0_0 x3_1).f0))).setCell ⟨gb120, 1, none⟩ (.int .i64 ((rd_T68 l0_0 x3_1).f1.f0))).setCell ⟨gb120, 2, none⟩ (.int .i64 ((rd_T68 l0_0 x3_1).f1.f1))).setCell ⟨gb120, 3, none⟩ (.int .i64 ((rd_T68 l0_0 x3_1).f1.f2))).setCell ⟨gb120, 4, none⟩ (.int .i64 ((rd_T68 l0_0 x3_1).f1.f3))).setCell ⟨gb120, 5, none⟩ (.string ((rd_T68 l0_0 x3_1).f1.f4))) := ⟨_, rfl⟩
         have n0_ : Aside0 (w61.heap[gb118]? = some (.cells #[.slice (some ad119) l0_0.length c0_0, .slice A0_1 l0_1.length c0_1] 32 (0, 0))) := ⟨by rw [hW_]; exact zfar (zfar (zfar (zfar (zfar (zfar (zb BK118) NB118_120) NB118_120) NB118_120) NB118_120) NB118_120) NB118_120⟩; have n1_ : Aside0 (w61.heap[gb120]? = some (.cells #[.int .i64 ((rd_T68 l0_0 x3_1).f0), .int .i64 ((rd_T68 l0_0 x3_1).f1.f0), .int .i64 ((rd_T68 l0_0 x3_1).f1.f1), .int .i64 ((rd_T68 l0_0 x3_1).f1.f2), .int .i64 ((rd_T68 l0_0 x3_1).f1.f3), .string ((rd_T68 l0_0 x3_1).f1.f4)] 68 (0, 0))) := ⟨by rw [hW_]; exact zput (zput (zput (zput (zput (zput (zb BK120) 0) 1) 2) 3) 4) 5⟩; have n2_ : Aside0 (Below w.heap.size w w61) := ⟨by rw [hW_]; exact zB⟩
         rw [← hW_]
         clear hW_; (try clear BK118); (try clear BK120); (try clear HB); have BK118 := n0_; have BK120 := n1_; have HB := n2_; clear n0_ n1_ n2_; replace BK118 := zq BK118; replace BK120 := zq BK120; replace HB := zm (below_drew1 HB.out)
         refine start_ (n := 36) (S := fun w' => w'.cell? ⟨gb120, 0, none⟩ = some (.int .i64 ((rd_T68 l0_0 x3_1).f0)) ∧ w'.cell? ⟨gb120, 1, none⟩ = some (.int .i64 ((rd_T68 l0_0 x3_1).f1.f0)) ∧ w'.cell? ⟨gb120, 2, none⟩ = some (.int .i64 ((rd_T68 l0_0 x3_1).f1.f1)) ∧ w'.cell? ⟨gb120, 3, none⟩ = some (.int .i64 ((rd_T68 l0_0 x3_1).f1.f2)) ∧ w'.cell? ⟨gb120, 4, none⟩ = some (.int .i64 ((rd_T68 l0_0 x3_1).f1.f3)) ∧ w'.cell? ⟨gb120, 5, none⟩ = some (.string ((rd_T68 l0_0 x3_1).f1.f4)) ∧ w'.cell? ⟨gb118, 0, none⟩ = some (.slice (some ad119) l0_0.length c0_0) ∧ w'.cell? ⟨gb118, 1, none⟩ = some (.slice A0_1 l0_1.length c0_1)) (ds := []) (zl 36 0) (by kernel_rfl) rfl rfl zS (fun hHeld => ?_); refine with_tabW spec_StateOk.tab5 spec_StateOk.bits5 (fun HT_ HW_ => ?_)
         generalize w61.drew = w62 at BK118 BK120 HB hHeld ⊢
         refine zu 0 19 36 1 ?_
         refine zv 1 20 36 3 ?_
         refine zo 2 (some 21) (zl 36 7) (fun K hK => ?_); refine zgo #[.int .i64 ((rd_T68 l0_0 x3_1).f0)] Try.func72 ?_; (with_reducible refine (spec_l3Node.calls ((rd_T68 l0_0 x3_1).f0) true _ A5.out).mono ?_); rintro e w' ⟨rfl, ⟨nd, rfl⟩⟩; refine ⟨_, rfl, ?_⟩; refine hK.out _ _ zS (fun hHeld => ?_); clear hK K; refine zn ?_
         refine zu 3 22 36 15 ?_
         refine zu 4 23 36 31 ?_
         refine zu 5 24 36 63 ?_
         refine zu 6 25 36 127 ?_
         refine zu 7 26 36 255 ?_
         refine zu 8 27 36 511 ?_
         refine zu 9 28 36 1023 ?_
         refine zu 10 29 36 2047 ?_
         refine zu 11 30 36 4095 ?_
         refine zu 12 31 36 8191 ?_
         refine zu 13 32 36 16383 ?_
         refine zu 14 33 36 32767 ?_
         refine zu 15 34 36 65535 ?_
         refine zu 16 35 36 131071 ?_
         refine zu 17 36 36 262143 ?_
         refine zu 18 37 36 524287 ?_
         refine zu 19 38 36 1048575 ?_
         refine zu 20 39 36 2097151 ?_
         refine zu 21 40 36 4194303 ?_
         refine zv 22 41 36 8388607 ?_
         refine zo 23 (some 42) (zl 36 16777215) (fun K hK => ?_); refine zgo #[.agg #[.int .i64 ((rd_T68 l0_0 x3_1).f1.f0), .int .i64 ((rd_T68 l0_0 x3_1).f1.f1), .int .i64 ((rd_T68 l0_0 x3_1).f1.f2), .int .i64 ((rd_T68 l0_0 x3_1).f1.f3), .string ((rd_T68 l0_0 x3_1).f1.f4)]] Try.func89 ?_; (with_reducible refine (spec_EntryOk.calls ((rd_T68 l0_0 x3_1).f1.f0) ((rd_T68 l0_0 x3_1).f1.f1) ((rd_T68 l0_0 x3_1).f1.f2) ((rd_T68 l0_0 x3_1).f1.f3) ((rd_T68 l0_0 x3_1).f1.f4) true _ A45.out).mono ?_); rintro e w63 ⟨rfl, hb⟩; refine ⟨_, rfl, ?_⟩; replace BK118 := zy BK118 hb; replace BK120 := zy BK120 hb; replace HB := zm (below_step zB hb); (try clear hb); refine hK.out _ _ zS (fun hHeld => ?_); clear hK K; refine zn ?_
         refine zu 24 43 36 33554431 ?_
         refine zu 25 44 36 67108863 ?_
         refine zu 26 45 36 134217727 ?_
         refine zu 27 46 36 268435455 ?_
         refine zu 28 47 36 536870911 ?_
         refine zu 31 50 36 2684354559 ?_
         refine zv 29 48 36 3221225471 ?_
         refine zv 30 49 36 4294967295 ?_
         refine zv 32 51 36 8589934591 ?_
         refine zo 33 (some 52) (zl 36 17179869183) (fun K hK => ?_); refine zgo #[.agg #[.slice (some ad119) l0_0.length c0_0, .slice A0_1 l0_1.length c0_1], .int .i64 ((rd_T68 l0_0 x3_1).f0)] Try.func76 ?_; (with_reducible refine (spec_FloorOf.calls k1 _ _ l0_0 _ _ l0_1 ((rd_T68 l0_0 x3_1).f0) t126 _ (zk (Kd.C_below HR0_0.out HB.out)) HC0_0.out (zk (Kd.C_below HR0_1.out HB.out)) HC0_1.out A47.out).mono ?_); rintro e w64 ⟨rfl, hb⟩; refine ⟨_, rfl, ?_⟩; replace BK118 := zy BK118 hb; replace BK120 := zy BK120 hb; replace HB := zm (below_step zB hb); (try clear hb); refine hK.out _ _ zS (fun hHeld => ?_); clear hK K; refine zn ?_
         refine zu 34 53 36 34359738367 ?_
         refine zu 35 54 36 68719476735 ?_
         refine done_ (done_of HT_.out (by kernel_rfl)) ?_
         try go_wp2
         go_roundg k1
         case measure => have := HK1.out; omega
         case rel => exact ⟨(wrap64 (x3_1 + 1)), zF, H', ⟨by have := HK1.out; omega⟩, ⟨zb BK118⟩, ⟨zB⟩⟩
       ·replace c46 := Bool.eq_false_iff.mpr c46; subst c46; rw [zff] at H; obtain rfl := Option.some.inj H; obtain ⟨hcz65_0, hcz65_1, hfz65_0, hfz65_1⟩ := zc2 BK118; have p119 : 0 ≤ (x3_1 : Int) := zd; have q119 : x3_1 < (l0_0.length : Int) := zd; obtain ⟨ad119, e119, hx119_0, hx119_1, hx119_2, hx119_3, hx119_4, hx119_5⟩ := at_T68 (Kd.C_below HR0_0.out HB.out) x3_1 p119 q119; cases e119; replace p119 := eq_true p119; replace q119 := eq_true q119
        try go_wp2_with (first | (refine zbox 4 #[.int .i64 0, .int .i64 0, .int .i64 0, .int .i64 0, .int .i64 0, .string (⟨#[]⟩ : ByteArray)] 68 ?_; intro gb120 hg w66 hbox hb; have BK120 := zm (hbox); have GW120 := zge w hg zB; have GE120 := zge w hg zB; replace HB := zm (below_step zB hb); have NB118_120 := zlt hg (zb BK118); have NB120_118 := zgt hg (zb BK118); replace BK118 := zy BK118 hb; clear hb hbox hg; have hnb67 := NB120_118.out; have hnc67 := NB118_120.out; obtain ⟨hcz68_0, hcz68_1, hcz68_2, hcz68_3, hcz68_4, hcz68_5, hfz68_0, hfz68_1, hfz68_2, hfz68_3, hfz68_4, hfz68_5⟩ := zc6 BK120))
        obtain ⟨w69, hW_⟩ : ∃ q, q = ((((((w66.setCell ⟨gb120, 0, none⟩ (.int .i64 ((rd_T68 l0_0 x3_1).f0))).setCell ⟨gb120, 1, none⟩ (.int .i64 ((rd_T68 l0_0 x3_1).f1.f0))).setCell ⟨gb120, 2, none⟩ (.int .i64 ((rd_T68 l0_0 x3_1).f1.f1))).setCell ⟨gb120, 3, none⟩ (.int .i64 ((rd_T68 l0_0 x3_1).f1.f2))).setCell ⟨gb120, 4, none⟩ (.int .i64 ((rd_T68 l0_0 x3_1).f1.f3))).setCell ⟨gb120, 5, none⟩ (.string ((rd_T68 l0_0 x3_1).f1.f4))) := ⟨_, rfl⟩
        have n0_ : Aside0 (w69.heap[gb118]? = some (.cells #[.slice (some ad119) l0_0.length c0_0, .slice A0_1 l0_1.length c0_1] 32 (0, 0))) := ⟨by rw [hW_]; exact zfar (zfar (zfar (zfar (zfar (zfar (zb BK118) NB118_120) NB118_120) NB118_120) NB118_120) NB118_120) NB118_120⟩; have n1_ : Aside0 (w69.heap[gb120]? = some (.cells #[.int .i64 ((rd_T68 l0_0 x3_1).f0), .int .i64 ((rd_T68 l0_0 x3_1).f1.f0), .int .i64 ((rd_T68 l0_0 x3_1).f1.f1), .int .i64 ((rd_T68 l0_0 x3_1).f1.f2), .int .i64 ((rd_T68 l0_0 x3_1).f1.f3), .string ((rd_T68 l0_0 x3_1).f1.f4)] 68 (0, 0))) := ⟨by rw [hW_]; exact zput (zput (zput (zput (zput (zput (zb BK120) 0) 1) 2) 3) 4) 5⟩; have n2_ : Aside0 (Below w.heap.size w w69) := ⟨by rw [hW_]; exact zB⟩
        rw [← hW_]
        clear hW_; (try clear BK118); (try clear BK120); (try clear HB); have BK118 := n0_; have BK120 := n1_; have HB := n2_; clear n0_ n1_ n2_; replace BK118 := zq BK118; replace BK120 := zq BK120; replace HB := zm (below_drew1 HB.out)
        refine start_ (n := 36) (S := fun w' => w'.cell? ⟨gb120, 0, none⟩ = some (.int .i64 ((rd_T68 l0_0 x3_1).f0)) ∧ w'.cell? ⟨gb120, 1, none⟩ = some (.int .i64 ((rd_T68 l0_0 x3_1).f1.f0)) ∧ w'.cell? ⟨gb120, 2, none⟩ = some (.int .i64 ((rd_T68 l0_0 x3_1).f1.f1)) ∧ w'.cell? ⟨gb120, 3, none⟩ = some (.int .i64 ((rd_T68 l0_0 x3_1).f1.f2)) ∧ w'.cell? ⟨gb120, 4, none⟩ = some (.int .i64 ((rd_T68 l0_0 x3_1).f1.f3)) ∧ w'.cell? ⟨gb120, 5, none⟩ = some (.string ((rd_T68 l0_0 x3_1).f1.f4))) (ds := []) (zl 36 0) (by kernel_rfl) rfl rfl zS (fun hHeld => ?_); refine with_tabW spec_StateOk.tab5 spec_StateOk.bits5 (fun HT_ HW_ => ?_)
        generalize w69.drew = w70 at BK118 BK120 HB hHeld ⊢
        refine zu 0 19 36 1 ?_
        refine zv 1 20 36 3 ?_
        refine zo 2 (some 21) (zl 36 7) (fun K hK => ?_); refine zgo #[.int .i64 ((rd_T68 l0_0 x3_1).f0)] Try.func72 ?_; (with_reducible refine (spec_l3Node.calls ((rd_T68 l0_0 x3_1).f0) true _ A5.out).mono ?_); rintro e w' ⟨rfl, ⟨nd, rfl⟩⟩; refine ⟨_, rfl, ?_⟩; refine hK.out _ _ zS (fun hHeld => ?_); clear hK K; refine zn ?_
        refine zu 3 22 36 15 ?_
        refine zu 4 23 36 31 ?_
        refine zu 5 24 36 63 ?_
        refine zu 6 25 36 127 ?_
        refine zu 7 26 36 255 ?_
        refine zu 8 27 36 511 ?_
        refine zu 9 28 36 1023 ?_
        refine zu 10 29 36 2047 ?_
        refine zu 11 30 36 4095 ?_
        refine zu 12 31 36 8191 ?_
        refine zu 13 32 36 16383 ?_
        refine zu 14 33 36 32767 ?_
        refine zu 15 34 36 65535 ?_
        refine zu 16 35 36 131071 ?_
        refine zu 17 36 36 262143 ?_
        refine zu 18 37 36 524287 ?_
        refine zu 19 38 36 1048575 ?_
        refine zu 20 39 36 2097151 ?_
        refine zu 21 40 36 4194303 ?_
        refine zv 22 41 36 8388607 ?_
        refine zo 23 (some 42) (zl 36 16777215) (fun K hK => ?_); refine zgo #[.agg #[.int .i64 ((rd_T68 l0_0 x3_1).f1.f0), .int .i64 ((rd_T68 l0_0 x3_1).f1.f1), .int .i64 ((rd_T68 l0_0 x3_1).f1.f2), .int .i64 ((rd_T68 l0_0 x3_1).f1.f3), .string ((rd_T68 l0_0 x3_1).f1.f4)]] Try.func89 ?_; (with_reducible refine (spec_EntryOk.calls ((rd_T68 l0_0 x3_1).f1.f0) ((rd_T68 l0_0 x3_1).f1.f1) ((rd_T68 l0_0 x3_1).f1.f2) ((rd_T68 l0_0 x3_1).f1.f3) ((rd_T68 l0_0 x3_1).f1.f4) false _ A45.out).mono ?_); rintro e w71 ⟨rfl, hb⟩; refine ⟨_, rfl, ?_⟩; replace BK118 := zy BK118 hb; replace BK120 := zy BK120 hb; replace HB := zm (below_step zB hb); (try clear hb); refine hK.out _ _ zS (fun hHeld => ?_); clear hK K; refine zn ?_
        refine zu 24 43 36 33554431 ?_
        refine zu 25 44 36 67108863 ?_
        refine zu 26 45 36 134217727 ?_
        refine zu 27 46 36 268435455 ?_
        refine zu 28 47 36 536870911 ?_
        refine zu 29 48 36 1073741823 ?_
        refine zu 30 49 36 2147483647 ?_
        refine zu 31 50 36 4294967295 ?_
        refine zu 32 51 36 8589934591 ?_
        refine zu 33 52 36 17179869183 ?_
        refine zu 34 53 36 34359738367 ?_
        refine zu 35 54 36 68719476735 ?_
        refine done_ (done_of HT_.out (by kernel_rfl)) ?_
        try go_wp2
        go_ret
        exact ⟨zE, zB⟩
     ·replace c6 := Bool.eq_false_iff.mpr c6; subst c6; rw [zff] at H; obtain rfl := Option.some.inj H; obtain ⟨hcz72_0, hcz72_1, hfz72_0, hfz72_1⟩ := zc2 BK118; have p119 : 0 ≤ (x3_1 : Int) := zd; have q119 : x3_1 < (l0_0.length : Int) := zd; obtain ⟨ad119, e119, hx119_0, hx119_1, hx119_2, hx119_3, hx119_4, hx119_5⟩ := at_T68 (Kd.C_below HR0_0.out HB.out) x3_1 p119 q119; cases e119; replace p119 := eq_true p119; replace q119 := eq_true q119
      try go_wp2_with (first | (refine zbox 4 #[.int .i64 0, .int .i64 0, .int .i64 0, .int .i64 0, .int .i64 0, .string (⟨#[]⟩ : ByteArray)] 68 ?_; intro gb120 hg w73 hbox hb; have BK120 := zm (hbox); have GW120 := zge w hg zB; have GE120 := zge w hg zB; replace HB := zm (below_step zB hb); have NB118_120 := zlt hg (zb BK118); have NB120_118 := zgt hg (zb BK118); replace BK118 := zy BK118 hb; clear hb hbox hg; have hnb74 := NB120_118.out; have hnc74 := NB118_120.out; obtain ⟨hcz75_0, hcz75_1, hcz75_2, hcz75_3, hcz75_4, hcz75_5, hfz75_0, hfz75_1, hfz75_2, hfz75_3, hfz75_4, hfz75_5⟩ := zc6 BK120))
      obtain ⟨w76, hW_⟩ : ∃ q, q = ((((((w73.setCell ⟨gb120, 0, none⟩ (.int .i64 ((rd_T68 l0_0 x3_1).f0))).setCell ⟨gb120, 1, none⟩ (.int .i64 ((rd_T68 l0_0 x3_1).f1.f0))).setCell ⟨gb120, 2, none⟩ (.int .i64 ((rd_T68 l0_0 x3_1).f1.f1))).setCell ⟨gb120, 3, none⟩ (.int .i64 ((rd_T68 l0_0 x3_1).f1.f2))).setCell ⟨gb120, 4, none⟩ (.int .i64 ((rd_T68 l0_0 x3_1).f1.f3))).setCell ⟨gb120, 5, none⟩ (.string ((rd_T68 l0_0 x3_1).f1.f4))) := ⟨_, rfl⟩
      have n0_ : Aside0 (w76.heap[gb118]? = some (.cells #[.slice (some ad119) l0_0.length c0_0, .slice A0_1 l0_1.length c0_1] 32 (0, 0))) := ⟨by rw [hW_]; exact zfar (zfar (zfar (zfar (zfar (zfar (zb BK118) NB118_120) NB118_120) NB118_120) NB118_120) NB118_120) NB118_120⟩; have n1_ : Aside0 (w76.heap[gb120]? = some (.cells #[.int .i64 ((rd_T68 l0_0 x3_1).f0), .int .i64 ((rd_T68 l0_0 x3_1).f1.f0), .int .i64 ((rd_T68 l0_0 x3_1).f1.f1), .int .i64 ((rd_T68 l0_0 x3_1).f1.f2), .int .i64 ((rd_T68 l0_0 x3_1).f1.f3), .string ((rd_T68 l0_0 x3_1).f1.f4)] 68 (0, 0))) := ⟨by rw [hW_]; exact zput (zput (zput (zput (zput (zput (zb BK120) 0) 1) 2) 3) 4) 5⟩; have n2_ : Aside0 (Below w.heap.size w w76) := ⟨by rw [hW_]; exact zB⟩
      rw [← hW_]
      clear hW_; (try clear BK118); (try clear BK120); (try clear HB); have BK118 := n0_; have BK120 := n1_; have HB := n2_; clear n0_ n1_ n2_; replace BK118 := zq BK118; replace BK120 := zq BK120; replace HB := zm (below_drew1 HB.out)
      refine start_ (n := 36) (S := fun w' => w'.cell? ⟨gb120, 0, none⟩ = some (.int .i64 ((rd_T68 l0_0 x3_1).f0)) ∧ w'.cell? ⟨gb120, 1, none⟩ = some (.int .i64 ((rd_T68 l0_0 x3_1).f1.f0)) ∧ w'.cell? ⟨gb120, 2, none⟩ = some (.int .i64 ((rd_T68 l0_0 x3_1).f1.f1)) ∧ w'.cell? ⟨gb120, 3, none⟩ = some (.int .i64 ((rd_T68 l0_0 x3_1).f1.f2)) ∧ w'.cell? ⟨gb120, 4, none⟩ = some (.int .i64 ((rd_T68 l0_0 x3_1).f1.f3)) ∧ w'.cell? ⟨gb120, 5, none⟩ = some (.string ((rd_T68 l0_0 x3_1).f1.f4))) (ds := []) (zl 36 0) (by kernel_rfl) rfl rfl zS (fun hHeld => ?_); refine with_tabW spec_StateOk.tab5 spec_StateOk.bits5 (fun HT_ HW_ => ?_)
      generalize w76.drew = w77 at BK118 BK120 HB hHeld ⊢
      refine zu 0 19 36 1 ?_
      refine zv 1 20 36 3 ?_
      refine zo 2 (some 21) (zl 36 7) (fun K hK => ?_); refine zgo #[.int .i64 ((rd_T68 l0_0 x3_1).f0)] Try.func72 ?_; (with_reducible refine (spec_l3Node.calls ((rd_T68 l0_0 x3_1).f0) false _ A5.out).mono ?_); rintro e w' ⟨rfl, ⟨nd, rfl⟩⟩; refine ⟨_, rfl, ?_⟩; refine hK.out _ _ zS (fun hHeld => ?_); clear hK K; refine zn ?_
      refine zu 3 22 36 15 ?_
      refine zu 4 23 36 31 ?_
      refine zu 5 24 36 63 ?_
      refine zu 6 25 36 127 ?_
      refine zu 7 26 36 255 ?_
      refine zu 8 27 36 511 ?_
      refine zu 9 28 36 1023 ?_
      refine zu 10 29 36 2047 ?_
      refine zu 11 30 36 4095 ?_
      refine zu 12 31 36 8191 ?_
      refine zu 13 32 36 16383 ?_
      refine zu 14 33 36 32767 ?_
      refine zu 15 34 36 65535 ?_
      refine zu 16 35 36 131071 ?_
      refine zu 17 36 36 262143 ?_
      refine zu 18 37 36 524287 ?_
      refine zu 19 38 36 1048575 ?_
      refine zu 20 39 36 2097151 ?_
      refine zu 21 40 36 4194303 ?_
      refine zu 22 41 36 8388607 ?_
      refine zu 23 42 36 16777215 ?_
      refine zu 24 43 36 33554431 ?_
      refine zu 25 44 36 67108863 ?_
      refine zu 26 45 36 134217727 ?_
      refine zu 27 46 36 268435455 ?_
      refine zu 28 47 36 536870911 ?_
      refine zu 29 48 36 1073741823 ?_
      refine zu 30 49 36 2147483647 ?_
      refine zu 31 50 36 4294967295 ?_
      refine zu 32 51 36 8589934591 ?_
      refine zu 33 52 36 17179869183 ?_
      refine zu 34 53 36 34359738367 ?_
      refine zu 35 54 36 68719476735 ?_
      refine done_ (done_of HT_.out (by kernel_rfl)) ?_
      try go_wp2
      go_ret
      exact ⟨zE, zB⟩
    ·rw [if_neg c4] at H
     exact absurd H (by simp)
   ·rw [if_neg c3] at H; have c3b0 : decide (x3_1 < (l0_0.length : Int)) = false := decide_eq_false c3; clear c3
    have H' := zm H
    clear H; obtain ⟨hcz78_0, hcz78_1, hfz78_0, hfz78_1⟩ := zc2 BK118
    go_wp2
    go_loopg [5] k1 (fun kq v5 w' => ∃ (x5_2 : Int), v5 = .int .i64 x5_2 ∧ Aside0 (spec_StateOk.l1 kq x5_2 l0_0 l0_1 = some r) ∧ Aside0 (kq ≤ k1) ∧ Aside0 (w'.heap[gb118]? = some (.cells #[(.slice A0_0 l0_0.length c0_0), (.slice A0_1 l0_1.length c0_1)] 32 (0, 0))) ∧ Aside0 (Below w.heap.size w w'))
    case atStart => exact ⟨(0), zF, H', ⟨Nat.le_refl _⟩, ⟨zb BK118⟩, ⟨zB⟩⟩
    case round =>
     clear H'; (try clear c3); (try clear c3b0); (try clear hcz78_0); (try clear hcz78_1); (try clear hfz78_0); (try clear hfz78_1); obtain ⟨x5_2, rfl, HA, HK2, BK118, HB⟩ := hrel
     cases gk with
     | zero => exact absurd HA.out (by simp [spec_StateOk.l1])
     | succ k2 =>
      have H := HA.out; clear HA; simp only [spec_StateOk.l1] at H
      by_cases c79 : x5_2 < (l0_1.length : Int)
      ·rw [if_pos c79] at H; have c79b0 : decide (x5_2 < (l0_1.length : Int)) = true := decide_eq_true c79; clear c79
       by_cases c80 : 0 ≤ x5_2
       ·rw [if_pos c80] at H; have c80b0 : decide (0 ≤ x5_2) = true := decide_eq_true c80; clear c80; replace H := Option.bind_eq_some_iff.mp H; obtain ⟨t129, A810, H⟩ := H; (try dsimp only at H); have A81 := zm A810; clear A810
        by_cases c82 : t129 = true
        ·subst c82; rw [if_pos rfl] at H
         by_cases c83 : x5_2 > 0
         ·rw [if_pos c83] at H; have c83b0 : decide (0 < x5_2) = true := decide_eq_true c83; clear c83
          obtain ⟨ji84, hji84⟩ : ∃ j_ : Int, (wrap64 (x5_2 - 1)) = j_ := ⟨_, rfl⟩
          replace H : (if 0 ≤ (ji84) then (if (ji84) < (l0_1.length : Int) then (if ((rd_T72 l0_1 x5_2).f0) ≤ ((rd_T72 l0_1 (ji84)).f0) then (some false) else ((spec_l1In.f ((rd_T72 l0_1 x5_2).f1) 1 1000).bind fun t131 => (if t131 = true then (spec_StateOk.l1 k2 (wrap64 (x5_2 + 1)) l0_0 l0_1) else (some false)))) else (none)) else (none)) = some r := by first | (rw [hji84] at H; exact H) | (simp only [hji84] at H ⊢; exact H)
          (try rw [hji84] at A81)
          have hji84w : (IntKind.i64.wrap (x5_2 - 1)) = ji84 := (i64_w _).trans hji84
          by_cases c85 : 0 ≤ (ji84)
          ·rw [if_pos c85] at H; have c85b0 : decide (0 ≤ (ji84)) = true := decide_eq_true c85; clear c85
           by_cases c86 : (ji84) < (l0_1.length : Int)
           ·rw [if_pos c86] at H; have c86b0 : decide ((ji84) < (l0_1.length : Int)) = true := decide_eq_true c86; clear c86
            by_cases c87 : ((rd_T72 l0_1 x5_2).f0) ≤ ((rd_T72 l0_1 (ji84)).f0)
            ·rw [if_pos c87] at H; have c87b0 : decide (((rd_T72 l0_1 x5_2).f0) ≤ ((rd_T72 l0_1 (ji84)).f0)) = true := decide_eq_true c87; clear c87; obtain rfl := Option.some.inj H; obtain ⟨hcz88_0, hcz88_1, hfz88_0, hfz88_1⟩ := zc2 BK118; have p127 : 0 ≤ (x5_2 : Int) := zd; have q127 : x5_2 < (l0_1.length : Int) := zd; obtain ⟨ad127, e127, hx127_0, hx127_1⟩ := at_T72 (Kd.C_below HR0_1.out HB.out) x5_2 p127 q127; cases e127; replace p127 := eq_true p127; replace q127 := eq_true q127
             try go_wp2_with (first | (refine zbox 6 #[.int .i64 0, .int .i64 0] 72 ?_; intro gb128 hg w89 hbox hb; have BK128 := zm (hbox); have GW128 := zge w hg zB; have GE128 := zge w hg zB; replace HB := zm (below_step zB hb); have NB118_128 := zlt hg (zb BK118); have NB128_118 := zgt hg (zb BK118); replace BK118 := zy BK118 hb; clear hb hbox hg; have hnb90 := NB128_118.out; have hnc90 := NB118_128.out; obtain ⟨hcz91_0, hcz91_1, hfz91_0, hfz91_1⟩ := zc2 BK128))
             obtain ⟨w92, hW_⟩ : ∃ q, q = ((w89.setCell ⟨gb128, 0, none⟩ (.int .i64 ((rd_T72 l0_1 x5_2).f0))).setCell ⟨gb128, 1, none⟩ (.int .i64 ((rd_T72 l0_1 x5_2).f1))) := ⟨_, rfl⟩
             have n0_ : Aside0 (w92.heap[gb118]? = some (.cells #[.slice A0_0 l0_0.length c0_0, .slice (some ad127) l0_1.length c0_1] 32 (0, 0))) := ⟨by rw [hW_]; exact zfar (zfar (zb BK118) NB118_128) NB118_128⟩; have n1_ : Aside0 (w92.heap[gb128]? = some (.cells #[.int .i64 ((rd_T72 l0_1 x5_2).f0), .int .i64 ((rd_T72 l0_1 x5_2).f1)] 72 (0, 0))) := ⟨by rw [hW_]; exact zput (zput (zb BK128) 0) 1⟩; have n2_ : Aside0 (Below w.heap.size w w92) := ⟨by rw [hW_]; exact zB⟩
             rw [← hW_]
             clear hW_; (try clear BK118); (try clear BK128); (try clear HB); have BK118 := n0_; have BK128 := n1_; have HB := n2_; clear n0_ n1_ n2_; replace BK118 := zq BK118; replace BK128 := zq BK128; replace HB := zm (below_drew1 HB.out); have p130 : 0 ≤ ((ji84) : Int) := zd; have q130 : (ji84) < (l0_1.length : Int) := zd; obtain ⟨ad130, e130, hx130_0, hx130_1⟩ := at_T72 HR0_1.out (ji84) p130 q130; have hw130_1 := hx130_1; have hw130_0 := hx130_0
             obtain rfl : ad127 = ad130 := (by injection e130)
             replace hx130_0 := zx HB hx130_0; replace hx130_1 := zx HB hx130_1; replace p130 := eq_true p130; replace q130 := eq_true q130
             refine start_ (n := 26) (S := fun w' => w'.cell? ⟨gb128, 0, none⟩ = some (.int .i64 ((rd_T72 l0_1 x5_2).f0)) ∧ w'.cell? ⟨gb128, 1, none⟩ = some (.int .i64 ((rd_T72 l0_1 x5_2).f1)) ∧ w'.cell? ⟨gb118, 0, none⟩ = some (.slice A0_0 l0_0.length c0_0) ∧ w'.cell? ⟨gb118, 1, none⟩ = some (.slice (some ad127) l0_1.length c0_1) ∧ w'.cell? (ad127.add (((ji84)).toNat * 2)) = some (.int .i64 ((rd_T72 l0_1 (ji84)).f0)) ∧ w'.cell? ⟨(ad127.add (((ji84)).toNat * 2)).block, (ad127.add (((ji84)).toNat * 2)).off + 1, none⟩ = some (.int .i64 ((rd_T72 l0_1 (ji84)).f1))) (ds := []) (zl 26 0) (by kernel_rfl) rfl rfl zS (fun hHeld => ?_); refine with_tabW spec_StateOk.tab11 spec_StateOk.bits11 (fun HT_ HW_ => ?_)
             generalize w92.drew = w93 at BK118 BK128 HB hx130_0 hx130_1 hHeld ⊢
             refine zu 0 67 26 1 ?_
             refine zv 1 68 26 3 ?_
             refine zo 2 (some 69) (zl 26 7) (fun K hK => ?_); refine zgo #[.int .i64 ((rd_T72 l0_1 x5_2).f0)] Try.func72 ?_; (with_reducible refine (spec_l3Node.calls ((rd_T72 l0_1 x5_2).f0) true _ A81.out).mono ?_); rintro e w' ⟨rfl, ⟨nd, rfl⟩⟩; refine ⟨_, rfl, ?_⟩; refine hK.out _ _ zS (fun hHeld => ?_); clear hK K; refine zn ?_
             refine zu 3 70 26 15 ?_
             refine zu 4 71 26 31 ?_
             refine zu 5 72 26 63 ?_
             refine zu 6 73 26 127 ?_
             refine zu 7 74 26 255 ?_
             refine zu 8 75 26 511 ?_
             refine zu 10 77 26 1535 ?_
             refine zu 12 79 26 5631 ?_
             refine zu 13 80 26 13823 ?_
             refine zv 9 76 26 14335 ?_
             refine zv 11 78 26 16383 ?_
             refine zu 14 81 26 32767 ?_
             refine zu 15 82 26 65535 ?_
             refine zv 16 83 26 131071 ?_
             refine zu 17 84 26 262143 ?_
             refine zu 18 85 26 524287 ?_
             refine zu 19 86 26 1048575 ?_
             refine zu 20 87 26 2097151 ?_
             refine zu 21 88 26 4194303 ?_
             refine zu 22 89 26 8388607 ?_
             refine zu 23 90 26 16777215 ?_
             refine zu 24 91 26 33554431 ?_
             refine zu 25 92 26 67108863 ?_
             refine done_ (done_of HT_.out (by kernel_rfl)) ?_
             try go_wp2
             go_ret
             exact ⟨by first | rfl | (simp [errW_none, errW_some] <;> rfl) | (simp only [← hji84]; first | rfl | (simp [errW_none, errW_some] <;> rfl)) | (simp [*, errW_none, errW_some] <;> rfl), zB⟩
            ·rw [if_neg c87] at H; have c87b0 : decide (((rd_T72 l0_1 x5_2).f0) ≤ ((rd_T72 l0_1 (ji84)).f0)) = false := decide_eq_false c87; clear c87; replace H := Option.bind_eq_some_iff.mp H; obtain ⟨t131, A940, H⟩ := H; (try dsimp only at H); have A94 := zm A940; clear A940
             by_cases c95 : t131 = true
             ·subst c95; rw [if_pos rfl] at H
              have H' := zm H
              clear H; obtain ⟨hcz96_0, hcz96_1, hfz96_0, hfz96_1⟩ := zc2 BK118; have p127 : 0 ≤ (x5_2 : Int) := zd; have q127 : x5_2 < (l0_1.length : Int) := zd; obtain ⟨ad127, e127, hx127_0, hx127_1⟩ := at_T72 (Kd.C_below HR0_1.out HB.out) x5_2 p127 q127; cases e127; replace p127 := eq_true p127; replace q127 := eq_true q127
              try go_wp2_with (first | (refine zbox 6 #[.int .i64 0, .int .i64 0] 72 ?_; intro gb128 hg w97 hbox hb; have BK128 := zm (hbox); have GW128 := zge w hg zB; have GE128 := zge w hg zB; replace HB := zm (below_step zB hb); have NB118_128 := zlt hg (zb BK118); have NB128_118 := zgt hg (zb BK118); replace BK118 := zy BK118 hb; clear hb hbox hg; have hnb98 := NB128_118.out; have hnc98 := NB118_128.out; obtain ⟨hcz99_0, hcz99_1, hfz99_0, hfz99_1⟩ := zc2 BK128))
              obtain ⟨w100, hW_⟩ : ∃ q, q = ((w97.setCell ⟨gb128, 0, none⟩ (.int .i64 ((rd_T72 l0_1 x5_2).f0))).setCell ⟨gb128, 1, none⟩ (.int .i64 ((rd_T72 l0_1 x5_2).f1))) := ⟨_, rfl⟩
              have n0_ : Aside0 (w100.heap[gb118]? = some (.cells #[.slice A0_0 l0_0.length c0_0, .slice (some ad127) l0_1.length c0_1] 32 (0, 0))) := ⟨by rw [hW_]; exact zfar (zfar (zb BK118) NB118_128) NB118_128⟩; have n1_ : Aside0 (w100.heap[gb128]? = some (.cells #[.int .i64 ((rd_T72 l0_1 x5_2).f0), .int .i64 ((rd_T72 l0_1 x5_2).f1)] 72 (0, 0))) := ⟨by rw [hW_]; exact zput (zput (zb BK128) 0) 1⟩; have n2_ : Aside0 (Below w.heap.size w w100) := ⟨by rw [hW_]; exact zB⟩
              rw [← hW_]
              clear hW_; (try clear BK118); (try clear BK128); (try clear HB); have BK118 := n0_; have BK128 := n1_; have HB := n2_; clear n0_ n1_ n2_; replace BK118 := zq BK118; replace BK128 := zq BK128; replace HB := zm (below_drew1 HB.out); have p130 : 0 ≤ ((ji84) : Int) := zd; have q130 : (ji84) < (l0_1.length : Int) := zd; obtain ⟨ad130, e130, hx130_0, hx130_1⟩ := at_T72 HR0_1.out (ji84) p130 q130; have hw130_1 := hx130_1; have hw130_0 := hx130_0
              obtain rfl : ad127 = ad130 := (by injection e130)
              replace hx130_0 := zx HB hx130_0; replace hx130_1 := zx HB hx130_1; replace p130 := eq_true p130; replace q130 := eq_true q130
              refine start_ (n := 26) (S := fun w' => w'.cell? ⟨gb128, 0, none⟩ = some (.int .i64 ((rd_T72 l0_1 x5_2).f0)) ∧ w'.cell? ⟨gb128, 1, none⟩ = some (.int .i64 ((rd_T72 l0_1 x5_2).f1)) ∧ w'.cell? ⟨gb118, 0, none⟩ = some (.slice A0_0 l0_0.length c0_0) ∧ w'.cell? ⟨gb118, 1, none⟩ = some (.slice (some ad127) l0_1.length c0_1) ∧ w'.cell? (ad127.add (((ji84)).toNat * 2)) = some (.int .i64 ((rd_T72 l0_1 (ji84)).f0)) ∧ w'.cell? ⟨(ad127.add (((ji84)).toNat * 2)).block, (ad127.add (((ji84)).toNat * 2)).off + 1, none⟩ = some (.int .i64 ((rd_T72 l0_1 (ji84)).f1))) (ds := []) (zl 26 0) (by kernel_rfl) rfl rfl zS (fun hHeld => ?_); refine with_tabW spec_StateOk.tab11 spec_StateOk.bits11 (fun HT_ HW_ => ?_)
              generalize w100.drew = w101 at BK118 BK128 HB hx130_0 hx130_1 hHeld ⊢
              refine zu 0 67 26 1 ?_
              refine zv 1 68 26 3 ?_
              refine zo 2 (some 69) (zl 26 7) (fun K hK => ?_); refine zgo #[.int .i64 ((rd_T72 l0_1 x5_2).f0)] Try.func72 ?_; (with_reducible refine (spec_l3Node.calls ((rd_T72 l0_1 x5_2).f0) true _ A81.out).mono ?_); rintro e w' ⟨rfl, ⟨nd, rfl⟩⟩; refine ⟨_, rfl, ?_⟩; refine hK.out _ _ zS (fun hHeld => ?_); clear hK K; refine zn ?_
              refine zu 3 70 26 15 ?_
              refine zu 4 71 26 31 ?_
              refine zu 5 72 26 63 ?_
              refine zu 6 73 26 127 ?_
              refine zu 7 74 26 255 ?_
              refine zu 8 75 26 511 ?_
              refine zu 10 77 26 1535 ?_
              refine zu 12 79 26 5631 ?_
              refine zu 13 80 26 13823 ?_
              refine zv 9 76 26 14335 ?_
              refine zv 11 78 26 16383 ?_
              refine zu 14 81 26 32767 ?_
              refine zu 15 82 26 65535 ?_
              refine zv 16 83 26 131071 ?_
              refine zu 17 84 26 262143 ?_
              refine zu 18 85 26 524287 ?_
              refine zu 19 86 26 1048575 ?_
              refine zu 20 87 26 2097151 ?_
              refine zu 21 88 26 4194303 ?_
              refine zv 22 89 26 8388607 ?_
              refine zo 23 (some 90) (zl 26 16777215) (fun K hK => ?_); refine zgo #[.int .i64 ((rd_T72 l0_1 x5_2).f1), .int .i64 1, .int .i64 1000] Try.func61 ?_; (with_reducible refine (spec_l1In.calls ((rd_T72 l0_1 x5_2).f1) 1 1000 true _ A94.out).mono ?_); rintro e w' ⟨rfl, ⟨nd, rfl⟩⟩; refine ⟨_, rfl, ?_⟩; refine hK.out _ _ zS (fun hHeld => ?_); clear hK K; refine zn ?_
              refine zu 24 91 26 33554431 ?_
              refine zu 25 92 26 67108863 ?_
              refine done_ (done_of HT_.out (by kernel_rfl)) ?_
              try go_wp2
              go_roundg k2
              case measure => have := HK1.out; have := HK2.out; omega
              case rel => exact ⟨(wrap64 (x5_2 + 1)), zF, H', ⟨by have := HK1.out; have := HK2.out; omega⟩, ⟨zb BK118⟩, ⟨zB⟩⟩
             ·replace c95 := Bool.eq_false_iff.mpr c95; subst c95; rw [zff] at H; obtain rfl := Option.some.inj H; obtain ⟨hcz102_0, hcz102_1, hfz102_0, hfz102_1⟩ := zc2 BK118; have p127 : 0 ≤ (x5_2 : Int) := zd; have q127 : x5_2 < (l0_1.length : Int) := zd; obtain ⟨ad127, e127, hx127_0, hx127_1⟩ := at_T72 (Kd.C_below HR0_1.out HB.out) x5_2 p127 q127; cases e127; replace p127 := eq_true p127; replace q127 := eq_true q127
              try go_wp2_with (first | (refine zbox 6 #[.int .i64 0, .int .i64 0] 72 ?_; intro gb128 hg w103 hbox hb; have BK128 := zm (hbox); have GW128 := zge w hg zB; have GE128 := zge w hg zB; replace HB := zm (below_step zB hb); have NB118_128 := zlt hg (zb BK118); have NB128_118 := zgt hg (zb BK118); replace BK118 := zy BK118 hb; clear hb hbox hg; have hnb104 := NB128_118.out; have hnc104 := NB118_128.out; obtain ⟨hcz105_0, hcz105_1, hfz105_0, hfz105_1⟩ := zc2 BK128))
              obtain ⟨w106, hW_⟩ : ∃ q, q = ((w103.setCell ⟨gb128, 0, none⟩ (.int .i64 ((rd_T72 l0_1 x5_2).f0))).setCell ⟨gb128, 1, none⟩ (.int .i64 ((rd_T72 l0_1 x5_2).f1))) := ⟨_, rfl⟩
              have n0_ : Aside0 (w106.heap[gb118]? = some (.cells #[.slice A0_0 l0_0.length c0_0, .slice (some ad127) l0_1.length c0_1] 32 (0, 0))) := ⟨by rw [hW_]; exact zfar (zfar (zb BK118) NB118_128) NB118_128⟩; have n1_ : Aside0 (w106.heap[gb128]? = some (.cells #[.int .i64 ((rd_T72 l0_1 x5_2).f0), .int .i64 ((rd_T72 l0_1 x5_2).f1)] 72 (0, 0))) := ⟨by rw [hW_]; exact zput (zput (zb BK128) 0) 1⟩; have n2_ : Aside0 (Below w.heap.size w w106) := ⟨by rw [hW_]; exact zB⟩
              rw [← hW_]
              clear hW_; (try clear BK118); (try clear BK128); (try clear HB); have BK118 := n0_; have BK128 := n1_; have HB := n2_; clear n0_ n1_ n2_; replace BK118 := zq BK118; replace BK128 := zq BK128; replace HB := zm (below_drew1 HB.out); have p130 : 0 ≤ ((ji84) : Int) := zd; have q130 : (ji84) < (l0_1.length : Int) := zd; obtain ⟨ad130, e130, hx130_0, hx130_1⟩ := at_T72 HR0_1.out (ji84) p130 q130; have hw130_1 := hx130_1; have hw130_0 := hx130_0
              obtain rfl : ad127 = ad130 := (by injection e130)
              replace hx130_0 := zx HB hx130_0; replace hx130_1 := zx HB hx130_1; replace p130 := eq_true p130; replace q130 := eq_true q130
              refine start_ (n := 26) (S := fun w' => w'.cell? ⟨gb128, 0, none⟩ = some (.int .i64 ((rd_T72 l0_1 x5_2).f0)) ∧ w'.cell? ⟨gb128, 1, none⟩ = some (.int .i64 ((rd_T72 l0_1 x5_2).f1)) ∧ w'.cell? ⟨gb118, 0, none⟩ = some (.slice A0_0 l0_0.length c0_0) ∧ w'.cell? ⟨gb118, 1, none⟩ = some (.slice (some ad127) l0_1.length c0_1) ∧ w'.cell? (ad127.add (((ji84)).toNat * 2)) = some (.int .i64 ((rd_T72 l0_1 (ji84)).f0)) ∧ w'.cell? ⟨(ad127.add (((ji84)).toNat * 2)).block, (ad127.add (((ji84)).toNat * 2)).off + 1, none⟩ = some (.int .i64 ((rd_T72 l0_1 (ji84)).f1))) (ds := []) (zl 26 0) (by kernel_rfl) rfl rfl zS (fun hHeld => ?_); refine with_tabW spec_StateOk.tab11 spec_StateOk.bits11 (fun HT_ HW_ => ?_)
              generalize w106.drew = w107 at BK118 BK128 HB hx130_0 hx130_1 hHeld ⊢
              refine zu 0 67 26 1 ?_
              refine zv 1 68 26 3 ?_
              refine zo 2 (some 69) (zl 26 7) (fun K hK => ?_); refine zgo #[.int .i64 ((rd_T72 l0_1 x5_2).f0)] Try.func72 ?_; (with_reducible refine (spec_l3Node.calls ((rd_T72 l0_1 x5_2).f0) true _ A81.out).mono ?_); rintro e w' ⟨rfl, ⟨nd, rfl⟩⟩; refine ⟨_, rfl, ?_⟩; refine hK.out _ _ zS (fun hHeld => ?_); clear hK K; refine zn ?_
              refine zu 3 70 26 15 ?_
              refine zu 4 71 26 31 ?_
              refine zu 5 72 26 63 ?_
              refine zu 6 73 26 127 ?_
              refine zu 7 74 26 255 ?_
              refine zu 8 75 26 511 ?_
              refine zu 10 77 26 1535 ?_
              refine zu 12 79 26 5631 ?_
              refine zu 13 80 26 13823 ?_
              refine zv 9 76 26 14335 ?_
              refine zv 11 78 26 16383 ?_
              refine zu 14 81 26 32767 ?_
              refine zu 15 82 26 65535 ?_
              refine zv 16 83 26 131071 ?_
              refine zu 17 84 26 262143 ?_
              refine zu 18 85 26 524287 ?_
              refine zu 19 86 26 1048575 ?_
              refine zu 20 87 26 2097151 ?_
              refine zu 21 88 26 4194303 ?_
              refine zv 22 89 26 8388607 ?_
              refine zo 23 (some 90) (zl 26 16777215) (fun K hK => ?_); refine zgo #[.int .i64 ((rd_T72 l0_1 x5_2).f1), .int .i64 1, .int .i64 1000] Try.func61 ?_; (with_reducible refine (spec_l1In.calls ((rd_T72 l0_1 x5_2).f1) 1 1000 false _ A94.out).mono ?_); rintro e w' ⟨rfl, ⟨nd, rfl⟩⟩; refine ⟨_, rfl, ?_⟩; refine hK.out _ _ zS (fun hHeld => ?_); clear hK K; refine zn ?_
              refine zu 24 91 26 33554431 ?_
              refine zu 25 92 26 67108863 ?_
              refine done_ (done_of HT_.out (by kernel_rfl)) ?_
              try go_wp2
              go_ret
              exact ⟨by first | rfl | (simp [errW_none, errW_some] <;> rfl) | (simp only [← hji84]; first | rfl | (simp [errW_none, errW_some] <;> rfl)) | (simp [*, errW_none, errW_some] <;> rfl), zB⟩
           ·rw [if_neg c86] at H
            exact absurd H (by simp)
          ·rw [if_neg c85] at H
           exact absurd H (by simp)
         ·rw [if_neg c83] at H; have c83b0 : decide (0 < x5_2) = false := decide_eq_false c83; clear c83; replace H := Option.bind_eq_some_iff.mp H; obtain ⟨t132, A1080, H⟩ := H; (try dsimp only at H); have A108 := zm A1080; clear A1080
          by_cases c109 : t132 = true
          ·subst c109; rw [if_pos rfl] at H
           have H' := zm H
           clear H; obtain ⟨hcz110_0, hcz110_1, hfz110_0, hfz110_1⟩ := zc2 BK118; have p127 : 0 ≤ (x5_2 : Int) := zd; have q127 : x5_2 < (l0_1.length : Int) := zd; obtain ⟨ad127, e127, hx127_0, hx127_1⟩ := at_T72 (Kd.C_below HR0_1.out HB.out) x5_2 p127 q127; cases e127; replace p127 := eq_true p127; replace q127 := eq_true q127
           try go_wp2_with (first | (refine zbox 6 #[.int .i64 0, .int .i64 0] 72 ?_; intro gb128 hg w111 hbox hb; have BK128 := zm (hbox); have GW128 := zge w hg zB; have GE128 := zge w hg zB; replace HB := zm (below_step zB hb); have NB118_128 := zlt hg (zb BK118); have NB128_118 := zgt hg (zb BK118); replace BK118 := zy BK118 hb; clear hb hbox hg; have hnb112 := NB128_118.out; have hnc112 := NB118_128.out; obtain ⟨hcz113_0, hcz113_1, hfz113_0, hfz113_1⟩ := zc2 BK128))
           obtain ⟨w114, hW_⟩ : ∃ q, q = ((w111.setCell ⟨gb128, 0, none⟩ (.int .i64 ((rd_T72 l0_1 x5_2).f0))).setCell ⟨gb128, 1, none⟩ (.int .i64 ((rd_T72 l0_1 x5_2).f1))) := ⟨_, rfl⟩
           have n0_ : Aside0 (w114.heap[gb118]? = some (.cells #[.slice A0_0 l0_0.length c0_0, .slice (some ad127) l0_1.length c0_1] 32 (0, 0))) := ⟨by rw [hW_]; exact zfar (zfar (zb BK118) NB118_128) NB118_128⟩; have n1_ : Aside0 (w114.heap[gb128]? = some (.cells #[.int .i64 ((rd_T72 l0_1 x5_2).f0), .int .i64 ((rd_T72 l0_1 x5_2).f1)] 72 (0, 0))) := ⟨by rw [hW_]; exact zput (zput (zb BK128) 0) 1⟩; have n2_ : Aside0 (Below w.heap.size w w114) := ⟨by rw [hW_]; exact zB⟩
           rw [← hW_]
           clear hW_; (try clear BK118); (try clear BK128); (try clear HB); have BK118 := n0_; have BK128 := n1_; have HB := n2_; clear n0_ n1_ n2_; replace BK118 := zq BK118; replace BK128 := zq BK128; replace HB := zm (below_drew1 HB.out)
           refine start_ (n := 26) (S := fun w' => w'.cell? ⟨gb128, 0, none⟩ = some (.int .i64 ((rd_T72 l0_1 x5_2).f0)) ∧ w'.cell? ⟨gb128, 1, none⟩ = some (.int .i64 ((rd_T72 l0_1 x5_2).f1))) (ds := []) (zl 26 0) (by kernel_rfl) rfl rfl zS (fun hHeld => ?_); refine with_tabW spec_StateOk.tab11 spec_StateOk.bits11 (fun HT_ HW_ => ?_)
           generalize w114.drew = w115 at BK118 BK128 HB hHeld ⊢
           refine zu 0 67 26 1 ?_
           refine zv 1 68 26 3 ?_
           refine zo 2 (some 69) (zl 26 7) (fun K hK => ?_); refine zgo #[.int .i64 ((rd_T72 l0_1 x5_2).f0)] Try.func72 ?_; (with_reducible refine (spec_l3Node.calls ((rd_T72 l0_1 x5_2).f0) true _ A81.out).mono ?_); rintro e w' ⟨rfl, ⟨nd, rfl⟩⟩; refine ⟨_, rfl, ?_⟩; refine hK.out _ _ zS (fun hHeld => ?_); clear hK K; refine zn ?_
           refine zu 3 70 26 15 ?_
           refine zu 4 71 26 31 ?_
           refine zu 5 72 26 63 ?_
           refine zu 6 73 26 127 ?_
           refine zu 7 74 26 255 ?_
           refine zu 8 75 26 511 ?_
           refine zu 9 76 26 1023 ?_
           refine zu 10 77 26 2047 ?_
           refine zu 11 78 26 4095 ?_
           refine zu 12 79 26 8191 ?_
           refine zu 13 80 26 16383 ?_
           refine zu 14 81 26 32767 ?_
           refine zu 15 82 26 65535 ?_
           refine zu 16 83 26 131071 ?_
           refine zu 17 84 26 262143 ?_
           refine zu 18 85 26 524287 ?_
           refine zu 19 86 26 1048575 ?_
           refine zu 20 87 26 2097151 ?_
           refine zu 21 88 26 4194303 ?_
           refine zv 22 89 26 8388607 ?_
           refine zo 23 (some 90) (zl 26 16777215) (fun K hK => ?_); refine zgo #[.int .i64 ((rd_T72 l0_1 x5_2).f1), .int .i64 1, .int .i64 1000] Try.func61 ?_; (with_reducible refine (spec_l1In.calls ((rd_T72 l0_1 x5_2).f1) 1 1000 true _ A108.out).mono ?_); rintro e w' ⟨rfl, ⟨nd, rfl⟩⟩; refine ⟨_, rfl, ?_⟩; refine hK.out _ _ zS (fun hHeld => ?_); clear hK K; refine zn ?_
           refine zu 24 91 26 33554431 ?_
           refine zu 25 92 26 67108863 ?_
           refine done_ (done_of HT_.out (by kernel_rfl)) ?_
           try go_wp2
           go_roundg k2
           case measure => have := HK1.out; have := HK2.out; omega
           case rel => exact ⟨(wrap64 (x5_2 + 1)), zF, H', ⟨by have := HK1.out; have := HK2.out; omega⟩, ⟨zb BK118⟩, ⟨zB⟩⟩
          ·replace c109 := Bool.eq_false_iff.mpr c109; subst c109; rw [zff] at H; obtain rfl := Option.some.inj H; obtain ⟨hcz116_0, hcz116_1, hfz116_0, hfz116_1⟩ := zc2 BK118; have p127 : 0 ≤ (x5_2 : Int) := zd; have q127 : x5_2 < (l0_1.length : Int) := zd; obtain ⟨ad127, e127, hx127_0, hx127_1⟩ := at_T72 (Kd.C_below HR0_1.out HB.out) x5_2 p127 q127; cases e127; replace p127 := eq_true p127; replace q127 := eq_true q127
           try go_wp2_with (first | (refine zbox 6 #[.int .i64 0, .int .i64 0] 72 ?_; intro gb128 hg w117 hbox hb; have BK128 := zm (hbox); have GW128 := zge w hg zB; have GE128 := zge w hg zB; replace HB := zm (below_step zB hb); have NB118_128 := zlt hg (zb BK118); have NB128_118 := zgt hg (zb BK118); replace BK118 := zy BK118 hb; clear hb hbox hg; have hnb118 := NB128_118.out; have hnc118 := NB118_128.out; obtain ⟨hcz119_0, hcz119_1, hfz119_0, hfz119_1⟩ := zc2 BK128))
           obtain ⟨w120, hW_⟩ : ∃ q, q = ((w117.setCell ⟨gb128, 0, none⟩ (.int .i64 ((rd_T72 l0_1 x5_2).f0))).setCell ⟨gb128, 1, none⟩ (.int .i64 ((rd_T72 l0_1 x5_2).f1))) := ⟨_, rfl⟩
           have n0_ : Aside0 (w120.heap[gb118]? = some (.cells #[.slice A0_0 l0_0.length c0_0, .slice (some ad127) l0_1.length c0_1] 32 (0, 0))) := ⟨by rw [hW_]; exact zfar (zfar (zb BK118) NB118_128) NB118_128⟩; have n1_ : Aside0 (w120.heap[gb128]? = some (.cells #[.int .i64 ((rd_T72 l0_1 x5_2).f0), .int .i64 ((rd_T72 l0_1 x5_2).f1)] 72 (0, 0))) := ⟨by rw [hW_]; exact zput (zput (zb BK128) 0) 1⟩; have n2_ : Aside0 (Below w.heap.size w w120) := ⟨by rw [hW_]; exact zB⟩
           rw [← hW_]
           clear hW_; (try clear BK118); (try clear BK128); (try clear HB); have BK118 := n0_; have BK128 := n1_; have HB := n2_; clear n0_ n1_ n2_; replace BK118 := zq BK118; replace BK128 := zq BK128; replace HB := zm (below_drew1 HB.out)
           refine start_ (n := 26) (S := fun w' => w'.cell? ⟨gb128, 0, none⟩ = some (.int .i64 ((rd_T72 l0_1 x5_2).f0)) ∧ w'.cell? ⟨gb128, 1, none⟩ = some (.int .i64 ((rd_T72 l0_1 x5_2).f1))) (ds := []) (zl 26 0) (by kernel_rfl) rfl rfl zS (fun hHeld => ?_); refine with_tabW spec_StateOk.tab11 spec_StateOk.bits11 (fun HT_ HW_ => ?_)
           generalize w120.drew = w121 at BK118 BK128 HB hHeld ⊢
           refine zu 0 67 26 1 ?_
           refine zv 1 68 26 3 ?_
           refine zo 2 (some 69) (zl 26 7) (fun K hK => ?_); refine zgo #[.int .i64 ((rd_T72 l0_1 x5_2).f0)] Try.func72 ?_; (with_reducible refine (spec_l3Node.calls ((rd_T72 l0_1 x5_2).f0) true _ A81.out).mono ?_); rintro e w' ⟨rfl, ⟨nd, rfl⟩⟩; refine ⟨_, rfl, ?_⟩; refine hK.out _ _ zS (fun hHeld => ?_); clear hK K; refine zn ?_
           refine zu 3 70 26 15 ?_
           refine zu 4 71 26 31 ?_
           refine zu 5 72 26 63 ?_
           refine zu 6 73 26 127 ?_
           refine zu 7 74 26 255 ?_
           refine zu 8 75 26 511 ?_
           refine zu 9 76 26 1023 ?_
           refine zu 10 77 26 2047 ?_
           refine zu 11 78 26 4095 ?_
           refine zu 12 79 26 8191 ?_
           refine zu 13 80 26 16383 ?_
           refine zu 14 81 26 32767 ?_
           refine zu 15 82 26 65535 ?_
           refine zu 16 83 26 131071 ?_
           refine zu 17 84 26 262143 ?_
           refine zu 18 85 26 524287 ?_
           refine zu 19 86 26 1048575 ?_
           refine zu 20 87 26 2097151 ?_
           refine zu 21 88 26 4194303 ?_
           refine zv 22 89 26 8388607 ?_
           refine zo 23 (some 90) (zl 26 16777215) (fun K hK => ?_); refine zgo #[.int .i64 ((rd_T72 l0_1 x5_2).f1), .int .i64 1, .int .i64 1000] Try.func61 ?_; (with_reducible refine (spec_l1In.calls ((rd_T72 l0_1 x5_2).f1) 1 1000 false _ A108.out).mono ?_); rintro e w' ⟨rfl, ⟨nd, rfl⟩⟩; refine ⟨_, rfl, ?_⟩; refine hK.out _ _ zS (fun hHeld => ?_); clear hK K; refine zn ?_
           refine zu 24 91 26 33554431 ?_
           refine zu 25 92 26 67108863 ?_
           refine done_ (done_of HT_.out (by kernel_rfl)) ?_
           try go_wp2
           go_ret
           exact ⟨zE, zB⟩
        ·replace c82 := Bool.eq_false_iff.mpr c82; subst c82; rw [zff] at H; obtain rfl := Option.some.inj H; obtain ⟨hcz122_0, hcz122_1, hfz122_0, hfz122_1⟩ := zc2 BK118; have p127 : 0 ≤ (x5_2 : Int) := zd; have q127 : x5_2 < (l0_1.length : Int) := zd; obtain ⟨ad127, e127, hx127_0, hx127_1⟩ := at_T72 (Kd.C_below HR0_1.out HB.out) x5_2 p127 q127; cases e127; replace p127 := eq_true p127; replace q127 := eq_true q127
         try go_wp2_with (first | (refine zbox 6 #[.int .i64 0, .int .i64 0] 72 ?_; intro gb128 hg w123 hbox hb; have BK128 := zm (hbox); have GW128 := zge w hg zB; have GE128 := zge w hg zB; replace HB := zm (below_step zB hb); have NB118_128 := zlt hg (zb BK118); have NB128_118 := zgt hg (zb BK118); replace BK118 := zy BK118 hb; clear hb hbox hg; have hnb124 := NB128_118.out; have hnc124 := NB118_128.out; obtain ⟨hcz125_0, hcz125_1, hfz125_0, hfz125_1⟩ := zc2 BK128))
         obtain ⟨w126, hW_⟩ : ∃ q, q = ((w123.setCell ⟨gb128, 0, none⟩ (.int .i64 ((rd_T72 l0_1 x5_2).f0))).setCell ⟨gb128, 1, none⟩ (.int .i64 ((rd_T72 l0_1 x5_2).f1))) := ⟨_, rfl⟩
         have n0_ : Aside0 (w126.heap[gb118]? = some (.cells #[.slice A0_0 l0_0.length c0_0, .slice (some ad127) l0_1.length c0_1] 32 (0, 0))) := ⟨by rw [hW_]; exact zfar (zfar (zb BK118) NB118_128) NB118_128⟩; have n1_ : Aside0 (w126.heap[gb128]? = some (.cells #[.int .i64 ((rd_T72 l0_1 x5_2).f0), .int .i64 ((rd_T72 l0_1 x5_2).f1)] 72 (0, 0))) := ⟨by rw [hW_]; exact zput (zput (zb BK128) 0) 1⟩; have n2_ : Aside0 (Below w.heap.size w w126) := ⟨by rw [hW_]; exact zB⟩
         rw [← hW_]
         clear hW_; (try clear BK118); (try clear BK128); (try clear HB); have BK118 := n0_; have BK128 := n1_; have HB := n2_; clear n0_ n1_ n2_; replace BK118 := zq BK118; replace BK128 := zq BK128; replace HB := zm (below_drew1 HB.out)
         refine start_ (n := 26) (S := fun w' => w'.cell? ⟨gb128, 0, none⟩ = some (.int .i64 ((rd_T72 l0_1 x5_2).f0)) ∧ w'.cell? ⟨gb128, 1, none⟩ = some (.int .i64 ((rd_T72 l0_1 x5_2).f1))) (ds := []) (zl 26 0) (by kernel_rfl) rfl rfl zS (fun hHeld => ?_); refine with_tabW spec_StateOk.tab11 spec_StateOk.bits11 (fun HT_ HW_ => ?_)
         generalize w126.drew = w127 at BK118 BK128 HB hHeld ⊢
         refine zu 0 67 26 1 ?_
         refine zv 1 68 26 3 ?_
         refine zo 2 (some 69) (zl 26 7) (fun K hK => ?_); refine zgo #[.int .i64 ((rd_T72 l0_1 x5_2).f0)] Try.func72 ?_; (with_reducible refine (spec_l3Node.calls ((rd_T72 l0_1 x5_2).f0) false _ A81.out).mono ?_); rintro e w' ⟨rfl, ⟨nd, rfl⟩⟩; refine ⟨_, rfl, ?_⟩; refine hK.out _ _ zS (fun hHeld => ?_); clear hK K; refine zn ?_
         refine zu 3 70 26 15 ?_
         refine zu 4 71 26 31 ?_
         refine zu 5 72 26 63 ?_
         refine zu 6 73 26 127 ?_
         refine zu 7 74 26 255 ?_
         refine zu 8 75 26 511 ?_
         refine zu 9 76 26 1023 ?_
         refine zu 10 77 26 2047 ?_
         refine zu 11 78 26 4095 ?_
         refine zu 12 79 26 8191 ?_
         refine zu 13 80 26 16383 ?_
         refine zu 14 81 26 32767 ?_
         refine zu 15 82 26 65535 ?_
         refine zu 16 83 26 131071 ?_
         refine zu 17 84 26 262143 ?_
         refine zu 18 85 26 524287 ?_
         refine zu 19 86 26 1048575 ?_
         refine zu 20 87 26 2097151 ?_
         refine zu 21 88 26 4194303 ?_
         refine zu 22 89 26 8388607 ?_
         refine zu 23 90 26 16777215 ?_
         refine zu 24 91 26 33554431 ?_
         refine zu 25 92 26 67108863 ?_
         refine done_ (done_of HT_.out (by kernel_rfl)) ?_
         try go_wp2
         go_ret
         exact ⟨zE, zB⟩
       ·rw [if_neg c80] at H
        exact absurd H (by simp)
      ·rw [if_neg c79] at H; have c79b0 : decide (x5_2 < (l0_1.length : Int)) = false := decide_eq_false c79; clear c79; obtain rfl := Option.some.inj H; obtain ⟨hcz128_0, hcz128_1, hfz128_0, hfz128_1⟩ := zc2 BK118
       go_wp2
       go_ret
       exact ⟨zE, zB⟩

end Go.Proofs.Ytgapdegniepjiaa.P
