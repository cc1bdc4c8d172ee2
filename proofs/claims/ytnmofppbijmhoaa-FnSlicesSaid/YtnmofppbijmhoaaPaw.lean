-- by a program of this session, for this seat
import Derived.Test.YtnmofppbijmhoaaZ
import Derived.Test.YtnmofppbijmhoaaP0
import Derived.Test.YtnmofppbijmhoaaPap
namespace Go.Proofs.Ytnmofppbijmhoaa.P
open Go.RowKit Go.Proofs.YtnmofppbijmhoaaW.PrintWords Go.Proofs.YtnmofppbijmhoaaW.PrintLast Go.Proofs.YtnmofppbijmhoaaW.PrintMore Go.Proofs.Ytnmofppbijmhoaa.Z
attribute [local go_sem] max2_int min2_int max_two min_two max_three min_three max_four min_four   -- for this text's walks alone
set_option linter.unusedVariables false
set_option linter.unusedSimpArgs false

/-! ### spec_l1Has: function 113 -/
def spec_l1Has.l0 : Nat → List Int → Int → Int → Option (Bool)
 | 0, _, _, _ => none
 | k + 1, x0, x1, x5 => if x5 < (x0.length : Int) then (if 0 ≤ x5 then (if (rd x0 x5) = x1 then (some true) else (spec_l1Has.l0 k x0 x1 (wrap64 (x5 + 1)))) else (none)) else (some false)
def spec_l1Has.f (k : Nat) (l0 : List Int) (a1 : Int) : Option (Bool) := spec_l1Has.l0 k l0 a1 0
theorem spec_l1Has.mono_l : ∀ k, (∀ y0 y1 y2, LeO (spec_l1Has.l0 k y0 y1 y2) (spec_l1Has.l0 (k + 1) y0 y1 y2))
 | 0 => fun _ _ _ r h => by simp [spec_l1Has.l0] at h
 | k + 1 => by
  have ih0 := spec_l1Has.mono_l k
  ·intro y0 y1 y2
   unfold spec_l1Has.l0
   repeat' first | (with_reducible first | exact LeO.refl _ | exact LeO.none _ | refine LeO.ite ?_ ?_ | refine LeO.bind ?_ (fun _ => ?_) | apply ih0) | apply ih0 | exact LeO.none _ | refine LeO.ite ?_ ?_ | refine LeO.bind ?_ (fun _ => ?_)
theorem spec_l1Has.mono : ∀ a0 a1 k, LeO (spec_l1Has.f k a0 a1) (spec_l1Has.f (k + 1) a0 a1) := by
 intro a0 a1 k; have ih0 := spec_l1Has.mono_l k
 unfold spec_l1Has.f
 repeat' first | (with_reducible first | exact LeO.refl _ | exact LeO.none _ | refine LeO.ite ?_ ?_ | refine LeO.bind ?_ (fun _ => ?_) | apply ih0) | apply ih0 | exact LeO.none _ | refine LeO.ite ?_ ?_ | refine LeO.bind ?_ (fun _ => ?_)
set_option maxHeartbeats 8000000 in
set_option maxRecDepth 100000 in
theorem spec_l1Has.calls (k : Nat) (A0 : Option Addr) (c0 : Nat) (l0 : List Int) (a1 : Int) (r : Bool) (w : World) (hr0 : Kd.C (Kd.int .i64) w A0 l0.length l0) (hc0 : l0.length ≤ c0) (h : spec_l1Has.f k l0 a1 = some r) :
  Calls Try.prog 113 #[.slice A0 l0.length c0, .int .i64 a1] w fun e w' => e = .returned (.bool r) ∧ Drawn0 w w' := by
 have HR0 := zm hr0; have AG := zm hc0; clear hr0 hc0; have H : (spec_l1Has.l0 k l0 a1 0) = some r := h; clear h
 have H' := zm H
 clear H; go_enter Try.func113, Try.ntmps113
 go_wp2
 go_loopg [5] k (fun kq v5 w' => ∃ (AA : Int), v5 = .int .i64 AA ∧ Aside0 (spec_l1Has.l0 kq l0 a1 AA = some r) ∧ Aside0 (kq ≤ k) ∧ Drawn0 w w')
 case atStart => exact ⟨(0), zF, H', ⟨Nat.le_refl _⟩, zD⟩
 case round =>
  clear H'; obtain ⟨AA, rfl, HA, AB, ⟨m1, rfl⟩⟩ := hrel
  cases gk with
  | zero => exact absurd HA.out (by simp [spec_l1Has.l0])
  | succ k1 =>
   have H := HA.out; clear HA; simp only [spec_l1Has.l0] at H
   by_cases c3 : AA < (l0.length : Int)
   ·rw [if_pos c3] at H; have AC : decide (AA < (l0.length : Int)) = true := decide_eq_true c3; clear c3
    by_cases c4 : 0 ≤ AA
    ·rw [if_pos c4] at H; have AF : decide (0 ≤ AA) = true := decide_eq_true c4; clear c4
     by_cases c5 : (rd l0 AA) = a1
     ·rw [if_pos c5] at H; have AD : ((rd l0 AA) == a1) = true := beq_iff_eq.mpr c5; have AE : ((rd l0 AA) != a1) = false := bne_eq_false_iff_eq.mpr c5; clear c5; obtain rfl := Option.some.inj H; have p1347 : 0 ≤ (AA : Int) := zd; have q1347 : AA < (l0.length : Int) := zd; obtain ⟨ad1347, e1347, hx1347_0⟩ := Kd.at_int HR0.out AA p1347 q1347; cases e1347; replace p1347 := eq_true p1347; replace q1347 := eq_true q1347
      go_wp2
      go_ret
      exact ⟨zF, zD⟩
     ·rw [if_neg c5] at H; have AD : ((rd l0 AA) == a1) = false := beq_eq_false_iff_ne.mpr c5; have AE : ((rd l0 AA) != a1) = true := bne_iff_ne.mpr c5
      have H' := zm H
      clear H; have p1347 : 0 ≤ (AA : Int) := zd; have q1347 : AA < (l0.length : Int) := zd; obtain ⟨ad1347, e1347, hx1347_0⟩ := Kd.at_int HR0.out AA p1347 q1347; cases e1347; replace p1347 := eq_true p1347; replace q1347 := eq_true q1347
      go_wp2
      go_roundg k1
      case measure => have := AB.out; omega
      case rel => exact ⟨(wrap64 (AA + 1)), zF, H', ⟨by have := AB.out; omega⟩, zD⟩
    ·rw [if_neg c4] at H
     exact absurd H (by simp)
   ·rw [if_neg c3] at H; have AC : decide (AA < (l0.length : Int)) = false := decide_eq_false c3; clear c3; obtain rfl := Option.some.inj H
    go_wp2
    go_ret
    exact ⟨zF, zD⟩

/-! ### spec_l6Slice: function 94 -/
mutual
def spec_l6Slice.l0 : Nat → List Int → Int → List (S44) → List (S58) → List (S44) → Option ((List (S44)) × (List (S58)))
 | 0, _, _, _, _, _ => none
 | k + 1, x1, x6, x1349000, x1349001, x1351000 => if x6 < (x1349000.length : Int) then (if 0 ≤ x6 then ((spec_LeafOf.f k ((rd_T44 x1349000 x6).f0)).bind fun t1352 => ((spec_l1Has.f k x1 t1352).bind fun t1353 => (if t1353 = true then (if x1351000.length < 2513169434916 then (spec_l6Slice.l0 k x1 (wrap64 (x6 + 1)) x1349000 x1349001 (x1351000 ++ [(⟨(rd_T44 x1349000 x6).f0, (⟨(rd_T44 x1349000 x6).f1.f0, (rd_T44 x1349000 x6).f1.f1, (rd_T44 x1349000 x6).f1.f2, (rd_T44 x1349000 x6).f1.f3, (rd_T44 x1349000 x6).f1.f4⟩ : S36)⟩ : S44)])) else (none)) else (spec_l6Slice.l0 k x1 (wrap64 (x6 + 1)) x1349000 x1349001 x1351000)))) else (none)) else (spec_l6Slice.l1 k x1 0 x1349000 x1349001 x1351000 ([] : List (S58)))
def spec_l6Slice.l1 : Nat → List Int → Int → List (S44) → List (S58) → List (S44) → List (S58) → Option ((List (S44)) × (List (S58)))
 | 0, _, _, _, _, _, _ => none
 | k + 1, x1, x7, x1349000, x1349001, x1351000, x1351001 => if x7 < (x1349001.length : Int) then (if 0 ≤ x7 then ((spec_LeafOf.f k ((rd_T58 x1349001 x7).f0)).bind fun t1359 => ((spec_l1Has.f k x1 t1359).bind fun t1360 => (if t1360 = true then (if x1351001.length < 8796093022208 then (spec_l6Slice.l1 k x1 (wrap64 (x7 + 1)) x1349000 x1349001 x1351000 (x1351001 ++ [(⟨(rd_T58 x1349001 x7).f0, (rd_T58 x1349001 x7).f1⟩ : S58)])) else (none)) else (spec_l6Slice.l1 k x1 (wrap64 (x7 + 1)) x1349000 x1349001 x1351000 x1351001)))) else (none)) else (some (x1351000, x1351001))
end
def spec_l6Slice.f (k : Nat) (l0_0 : List (S44)) (l0_1 : List (S58)) (l1 : List Int) : Option ((List (S44)) × (List (S58))) := spec_l6Slice.l0 k l1 0 l0_0 l0_1 ([] : List (S44))
theorem spec_l6Slice.mono_l : ∀ k, (∀ y0 y1 y2 y3 y4, LeO (spec_l6Slice.l0 k y0 y1 y2 y3 y4) (spec_l6Slice.l0 (k + 1) y0 y1 y2 y3 y4)) ∧ (∀ y0 y1 y2 y3 y4 y5, LeO (spec_l6Slice.l1 k y0 y1 y2 y3 y4 y5) (spec_l6Slice.l1 (k + 1) y0 y1 y2 y3 y4 y5))
 | 0 => ⟨fun _ _ _ _ _ r h => by simp [spec_l6Slice.l0] at h, fun _ _ _ _ _ _ r h => by simp [spec_l6Slice.l1] at h⟩
 | k + 1 => by
  obtain ⟨ih0, ih1⟩ := spec_l6Slice.mono_l k
  refine ⟨?_, ?_⟩
  ·intro y0 y1 y2 y3 y4
   unfold spec_l6Slice.l0
   repeat' first | (with_reducible first | exact LeO.refl _ | exact LeO.none _ | refine LeO.ite ?_ ?_ | refine LeO.bind ?_ (fun _ => ?_) | apply ih0 | apply ih1 | apply spec_LeafOf.mono | apply spec_l1Has.mono) | apply ih0 | apply ih1 | apply spec_LeafOf.mono | apply spec_l1Has.mono | exact LeO.none _ | refine LeO.ite ?_ ?_ | refine LeO.bind ?_ (fun _ => ?_)
  ·intro y0 y1 y2 y3 y4 y5
   unfold spec_l6Slice.l1
   repeat' first | (with_reducible first | exact LeO.refl _ | exact LeO.none _ | refine LeO.ite ?_ ?_ | refine LeO.bind ?_ (fun _ => ?_) | apply ih0 | apply ih1 | apply spec_LeafOf.mono | apply spec_l1Has.mono) | apply ih0 | apply ih1 | apply spec_LeafOf.mono | apply spec_l1Has.mono | exact LeO.none _ | refine LeO.ite ?_ ?_ | refine LeO.bind ?_ (fun _ => ?_)
theorem spec_l6Slice.mono : ∀ a0 a1 a2 k, LeO (spec_l6Slice.f k a0 a1 a2) (spec_l6Slice.f (k + 1) a0 a1 a2) := by
 intro a0 a1 a2 k; obtain ⟨ih0, ih1⟩ := spec_l6Slice.mono_l k
 unfold spec_l6Slice.f
 repeat' first | (with_reducible first | exact LeO.refl _ | exact LeO.none _ | refine LeO.ite ?_ ?_ | refine LeO.bind ?_ (fun _ => ?_) | apply ih0 | apply ih1 | apply spec_LeafOf.mono | apply spec_l1Has.mono) | apply ih0 | apply ih1 | apply spec_LeafOf.mono | apply spec_l1Has.mono | exact LeO.none _ | refine LeO.ite ?_ ?_ | refine LeO.bind ?_ (fun _ => ?_)
def spec_l6Slice.T6 : Bool × List (List Nat × List Nat) := (true, [([], []), ([0], [0]), ([], []), ([2], [2]), ([], []), ([3, 4], [3, 4]), ([5], [5]), ([6], [6]), ([1, 7], [1, 7]), ([0, 1, 2, 3, 4, 5, 6, 7, 8], []), ([9, 8, 8, 0, 1, 2, 3, 4, 5, 6, 7, 8], [8, 9])])
def spec_l6Slice.B6 : List Nat := [0, 1, 0, 4, 0, 28, 60, 124, 255, 511, 1023]
theorem spec_l6Slice.tab6 : rtab .any (opsOf Try.f94 6) = spec_l6Slice.T6 := by kernel_rfl
theorem spec_l6Slice.bits6 : waitsOk spec_l6Slice.T6.2 spec_l6Slice.B6 = true := by kernel_rfl
def spec_l6Slice.T11 : Bool × List (List Nat × List Nat) := (true, [([], []), ([0], [0]), ([], []), ([2], [2]), ([], []), ([3, 4], [3, 4]), ([5], [5]), ([6], [6]), ([1, 7], [1, 7]), ([0, 1, 2, 3, 4, 5, 6, 7, 8], []), ([9, 8, 8, 0, 1, 2, 3, 4, 5, 6, 7, 8], [8, 9])])
def spec_l6Slice.B11 : List Nat := [0, 1, 0, 4, 0, 28, 60, 124, 255, 511, 1023]
theorem spec_l6Slice.tab11 : rtab .any (opsOf Try.f94 11) = spec_l6Slice.T11 := by kernel_rfl
theorem spec_l6Slice.bits11 : waitsOk spec_l6Slice.T11.2 spec_l6Slice.B11 = true := by kernel_rfl
set_option maxHeartbeats 8000000 in
set_option maxRecDepth 100000 in
theorem spec_l6Slice.calls (k : Nat) (A0_0 : Option Addr) (c0_0 : Nat) (l0_0 : List (S44)) (A0_1 : Option Addr) (c0_1 : Nat) (l0_1 : List (S58)) (A1 : Option Addr) (c1 : Nat) (l1 : List Int) (r1 : List (S44)) (r2 : List (S58)) (w : World) (hr0_0 : Kd.C k44 w A0_0 l0_0.length l0_0) (hc0_0 : l0_0.length ≤ c0_0) (hr0_1 : Kd.C k58 w A0_1 l0_1.length l0_1) (hc0_1 : l0_1.length ≤ c0_1) (hr1 : Kd.C (Kd.int .i64) w A1 l1.length l1) (hc1 : l1.length ≤ c1) (h : spec_l6Slice.f k l0_0 l0_1 l1 = some (r1, r2)) :
  Calls Try.prog 94 #[.agg #[.slice A0_0 l0_0.length c0_0, .slice A0_1 l0_1.length c0_1], .slice A1 l1.length c1] w fun e w' => ∃ v0_ v1_ : Value, e = .returned (.agg #[v0_, v1_]) ∧ Kd.R k44 44 w' w.heap.size (fun _ => True) v0_ r1 ∧ Kd.R k58 58 w' w.heap.size (fun _ => True) v1_ r2 ∧ Below w.heap.size w w' := by
 have hu27 := Try.underlying27; have hu44 := Try.underlying44; have hu58 := Try.underlying58; have HR0_0 := zm hr0_0; have HC0_0 := zm hc0_0; clear hr0_0 hc0_0; have HR0_1 := zm hr0_1; have HC0_1 := zm hc0_1; clear hr0_1 hc0_1; have HR1 := zm hr1; have Ac := zm hc1; clear hr1 hc1; have HB := zm (Below.refl w.heap.size w); have H : (spec_l6Slice.l0 k l1 0 l0_0 l0_1 ([] : List (S44))) = some (r1, r2) := h; clear h
 have H' := zm H
 clear H; go_enter Try.func94, Try.ntmps94
 go_wp2_with (first | ((with_reducible refine gate_dst (N := 2) rfl ?_); refine zbox 2 #[.slice A0_0 l0_0.length c0_0, .slice A0_1 l0_1.length c0_1] 27 ?_; intro AQ hg w3 hbox hb; have AB := zm (hbox); have Bm := zge w hg zB; have Bj := zge w hg zB; replace HB := zm (below_step zB hb); clear hb hbox hg) | ((with_reducible refine gate_dst (N := 4) rfl ?_); refine zbox 4 #[.slice none 0 0, .slice none 0 0] 27 ?_; intro AU hg w4 hbox hb; have AE := zm (hbox); have Bn := zge w hg zB; have Bk := zge w hg zB; replace HB := zm (below_step zB hb); have AM := zlt hg (zb AB); have AN := zgt hg (zb AB); replace AB := zy AB hb; clear hb hbox hg) | ((with_reducible refine gate_dst (N := 5) rfl ?_); refine zbox 5 #[.slice none 0 0, .slice none 0 0] 27 ?_; intro AP hg w5 hbox hb; have AC := zm (hbox); have Bo := zge w hg zB; have Bl := zge w hg zB; replace HB := zm (below_step zB hb); have AG := zlt hg (zb AB); have AJ := zgt hg (zb AB); replace AB := zy AB hb; have AK := zlt hg (zb AE); have AO := zgt hg (zb AE); replace AE := zy AE hb; clear hb hbox hg; have CJ := AJ.out; have CL := AG.out; have CK := AO.out; have CM := AK.out; obtain ⟨AY, AZ, Aa, Ab⟩ := zc2 AC))
 go_loopg [6] k (fun kq v6 w' => ∃ (AD : Int) (AI : List (S44)) (u1351000 : Value), v6 = .int .i64 AD ∧ Aside0 (spec_l6Slice.l0 kq l1 AD l0_0 l0_1 AI = some (r1, r2)) ∧ Aside0 (kq ≤ k) ∧ Aside0 (Kd.R k44 44 w' w.heap.size (fun _ => True) u1351000 AI) ∧ Aside0 (w'.heap[AQ]? = some (.cells #[(.slice A0_0 l0_0.length c0_0), (.slice A0_1 l0_1.length c0_1)] 27 (0, 0))) ∧ Aside0 (w'.heap[AU]? = some (.cells #[(.slice none 0 0), (.slice none 0 0)] 27 (0, 0))) ∧ Aside0 (w'.heap[AP]? = some (.cells #[u1351000, (.slice none 0 0)] 27 (0, 0))) ∧ Aside0 (Below w.heap.size w w'))
 case atStart => exact ⟨(0), (([] : List (S44))), (.slice none 0 0), zF, H', ⟨Nat.le_refl _⟩, ⟨znil⟩, ⟨zfar (zfar (zb AB) AG) AG⟩, ⟨zfar (zfar (zb AE) AK) AK⟩, ⟨zput (zput (zb AC) 0) 1⟩, ⟨zB⟩⟩
 case round =>
  clear H'; (try clear c1); (try clear AY); (try clear AZ); (try clear Aa); (try clear Ab); obtain ⟨AD, AI, u1351000, rfl, HA, AT, AA, AB, AE, AC, HB⟩ := hrel
  cases gk with
  | zero => exact absurd HA.out (by simp [spec_l6Slice.l0])
  | succ k1 =>
   have H := HA.out; clear HA; simp only [spec_l6Slice.l0] at H
   by_cases c9 : AD < (l0_0.length : Int)
   ·rw [if_pos c9] at H; have Au : decide (AD < (l0_0.length : Int)) = true := decide_eq_true c9; clear c9
    by_cases Ae : 0 ≤ AD
    ·rw [if_pos Ae] at H; have Br : decide (0 ≤ AD) = true := decide_eq_true Ae; clear Ae; replace H := Option.bind_eq_some_iff.mp H; obtain ⟨AR, Aq, H⟩ := H; (try dsimp only at H); have Ay := zm Aq; clear Aq; replace H := Option.bind_eq_some_iff.mp H; obtain ⟨Aw, Ar, H⟩ := H; (try dsimp only at H); have Az := zm Ar; clear Ar
     by_cases Af : Aw = true
     ·subst Af; rw [if_pos rfl] at H
      by_cases Ag : AI.length < 2513169434916
      ·rw [if_pos Ag] at H; have LMc14 := zm Ag; clear Ag
       obtain ⟨y1355, hy1355⟩ : ∃ y_ : List (S44), y_ = (AI ++ [(⟨(rd_T44 l0_0 AD).f0, (⟨(rd_T44 l0_0 AD).f1.f0, (rd_T44 l0_0 AD).f1.f1, (rd_T44 l0_0 AD).f1.f2, (rd_T44 l0_0 AD).f1.f3, (rd_T44 l0_0 AD).f1.f4⟩ : S36)⟩ : S44)]) := ⟨_, rfl⟩
       replace H : (spec_l6Slice.l0 k1 l1 (wrap64 (AD + 1)) l0_0 l0_1 y1355) = some (r1, r2) := by first | (rw [hy1355]; with_reducible exact H) | (have H2_ := (Option.bind_some _ _).symm.trans H; rw [hy1355]; with_reducible exact H2_) | (have H2_ := (Option.bind_some _ _).symm.trans H; with_reducible exact H2_) | with_reducible exact H | (rw [hy1355]; exact H) | exact H
       have Ny1355 := zm hy1355; clear hy1355
       have H' := zm H
       clear H; have Bt := AM.out; have C6 := AN.out; have Bu := AG.out; have C7 := AJ.out; obtain ⟨BH, BI, BV, BW⟩ := zc2 AB; have p1351 : 0 ≤ (AD : Int) := zd; have q1351 : AD < (l0_0.length : Int) := zd; obtain ⟨ad1351, e1351, hx1351_0, hx1351_1, hx1351_2, hx1351_3, hx1351_4, hx1351_5⟩ := at_T44 (Kd.C_below HR0_0.out HB.out) AD p1351 q1351; cases e1351; replace p1351 := eq_true p1351; replace q1351 := eq_true q1351
       try go_wp2_with (first | ((with_reducible refine gate_callee (f := 36) rfl ?_); refine zg (some 23) #[.int .i64 ((rd_T44 l0_0 AD).f0)] Try.func36 ?_; (with_reducible refine (spec_LeafOf.calls k1 ((rd_T44 l0_0 AD).f0) AR _ Ay.out).mono ?_); rintro e Ak ⟨rfl, hb⟩; refine ⟨_, rfl, ?_⟩; replace AA := zw AA hb; replace AB := zy AB hb; replace AE := zy AE hb; replace AC := zy AC hb; replace HB := zm (below_step zB hb); clear hb) | ((with_reducible refine gate_callee (f := 113) rfl ?_); refine zg (some 24) #[.slice A1 l1.length c1, .int .i64 AR] Try.func113 ?_; (with_reducible refine (spec_l1Has.calls k1 _ _ l1 AR true _ (zk (Kd.C_below HR1.out HB.out)) Ac.out Az.out).mono ?_); rintro e w' ⟨rfl, ⟨nd, rfl⟩⟩; refine ⟨_, rfl, ?_⟩; (try (rw [drewN_self Ak]; generalize hq_ : World.drewN Ak _ = Ak; have n0_ := zm (Kd.R_at hq_ AA.out); have n1_ := zm (blk_at hq_ AB.out); have n2_ := zm (blk_at hq_ AE.out); have n3_ := zm (blk_at hq_ AC.out); have n4_ := zm (below_at hq_ HB.out); clear hq_ AA AB AE AC HB; have AA := n0_; have AB := n1_; have AE := n2_; have AC := n3_; have HB := n4_; clear n0_ n1_ n2_ n3_ n4_))))
       replace AA := zm (Kd.R_drew AA.out); replace AB := zq AB; replace AE := zq AE; replace AC := zq AC; replace HB := zm (below_drew1 HB.out); have p1354 : 0 ≤ (AD : Int) := zd; have q1354 : AD < (l0_0.length : Int) := zd; obtain ⟨ad1354, e1354, hx1354_0, hx1354_1, hx1354_2, hx1354_3, hx1354_4, hx1354_5⟩ := at_T44 HR0_0.out AD p1354 q1354; have hw1354_5 := hx1354_5; have hw1354_4 := hx1354_4; have hw1354_3 := hx1354_3; have hw1354_2 := hx1354_2; have hw1354_1 := hx1354_1; have hw1354_0 := hx1354_0
       obtain rfl : ad1351 = ad1354 := (by injection e1354)
       replace hx1354_0 := zx HB hx1354_0; replace hx1354_1 := zx HB hx1354_1; replace hx1354_2 := zx HB hx1354_2; replace hx1354_3 := zx HB hx1354_3; replace hx1354_4 := zx HB hx1354_4; replace hx1354_5 := zx HB hx1354_5; replace p1354 := eq_true p1354; replace q1354 := eq_true q1354
       refine start_ (n := 11) (S := fun w' => w'.cell? ⟨AP, 0, none⟩ = some (u1351000) ∧ w'.cell? ⟨AP, 1, none⟩ = some (.slice none 0 0) ∧ w'.cell? ⟨AQ, 0, none⟩ = some (.slice (some ad1351) l0_0.length c0_0) ∧ w'.cell? ⟨AQ, 1, none⟩ = some (.slice A0_1 l0_1.length c0_1) ∧ w'.cell? (ad1351.add ((AD).toNat * 6)) = some (.int .i64 ((rd_T44 l0_0 AD).f0)) ∧ w'.cell? ⟨(ad1351.add ((AD).toNat * 6)).block, (ad1351.add ((AD).toNat * 6)).off + 1, none⟩ = some (.int .i64 ((rd_T44 l0_0 AD).f1.f0)) ∧ w'.cell? ⟨(ad1351.add ((AD).toNat * 6)).block, (ad1351.add ((AD).toNat * 6)).off + 2, none⟩ = some (.int .i64 ((rd_T44 l0_0 AD).f1.f1)) ∧ w'.cell? ⟨(ad1351.add ((AD).toNat * 6)).block, (ad1351.add ((AD).toNat * 6)).off + 3, none⟩ = some (.int .i64 ((rd_T44 l0_0 AD).f1.f2)) ∧ w'.cell? ⟨(ad1351.add ((AD).toNat * 6)).block, (ad1351.add ((AD).toNat * 6)).off + 4, none⟩ = some (.int .i64 ((rd_T44 l0_0 AD).f1.f3)) ∧ w'.cell? ⟨(ad1351.add ((AD).toNat * 6)).block, (ad1351.add ((AD).toNat * 6)).off + 5, none⟩ = some (.string ((rd_T44 l0_0 AD).f1.f4))) (ds := [10]) (zl 11 0) (by kernel_rfl) rfl rfl zS (fun hHeld => ?_); refine with_tabW spec_l6Slice.tab6 spec_l6Slice.bits6 (fun HT_ HW_ => ?_)
       generalize Ak.drew = CN at AA AB AE AC HB hx1354_0 hx1354_1 hx1354_2 hx1354_3 hx1354_4 hx1354_5 hHeld ⊢
       refine zu 0 25 11 1 ?_
       refine zu 2 27 11 5 ?_
       refine zu 4 29 11 21 ?_
       refine zv 1 26 11 23 ?_
       refine zv 3 28 11 31 ?_
       refine zu 5 30 11 63 ?_
       refine zv 6 31 11 127 ?_
       refine zo 7 (some 32) (zl 11 255) (fun K hK => ?_)
       refine value_ (w1 := ?_) (v := ?_) (by rfl) rfl ?_ ?_
       rotate_left 2
       ·go_simp
        constructor
        ·rfl
        ·rfl
       refine hK.out _ _ ⟨(blk_cell (blk_alloc AC.out _) 0).trans rfl, (blk_cell (blk_alloc AC.out _) 1).trans rfl, (blk_cell (blk_alloc AB.out _) 0).trans rfl, (blk_cell (blk_alloc AB.out _) 1).trans rfl, (World.cell?_alloc_lt _ _ _ (World.block_lt_of_cell? _ _ (((HB.out.cell (World.block_lt_of_cell? w _ hw1354_0)).trans hw1354_0)))).trans (((HB.out.cell (World.block_lt_of_cell? w _ hw1354_0)).trans hw1354_0)), (World.cell?_alloc_lt _ _ _ (World.block_lt_of_cell? _ _ (((HB.out.cell (World.block_lt_of_cell? w _ hw1354_1)).trans hw1354_1)))).trans (((HB.out.cell (World.block_lt_of_cell? w _ hw1354_1)).trans hw1354_1)), (World.cell?_alloc_lt _ _ _ (World.block_lt_of_cell? _ _ (((HB.out.cell (World.block_lt_of_cell? w _ hw1354_2)).trans hw1354_2)))).trans (((HB.out.cell (World.block_lt_of_cell? w _ hw1354_2)).trans hw1354_2)), (World.cell?_alloc_lt _ _ _ (World.block_lt_of_cell? _ _ (((HB.out.cell (World.block_lt_of_cell? w _ hw1354_3)).trans hw1354_3)))).trans (((HB.out.cell (World.block_lt_of_cell? w _ hw1354_3)).trans hw1354_3)), (World.cell?_alloc_lt _ _ _ (World.block_lt_of_cell? _ _ (((HB.out.cell (World.block_lt_of_cell? w _ hw1354_4)).trans hw1354_4)))).trans (((HB.out.cell (World.block_lt_of_cell? w _ hw1354_4)).trans hw1354_4)), (World.cell?_alloc_lt _ _ _ (World.block_lt_of_cell? _ _ (((HB.out.cell (World.block_lt_of_cell? w _ hw1354_5)).trans hw1354_5)))).trans (((HB.out.cell (World.block_lt_of_cell? w _ hw1354_5)).trans hw1354_5))⟩ (fun hHeld => ?_); clear hK K
       refine zn (N := some 32) ?_; refine zo 8 (some 33) (zl 11 511) (fun K hK => ?_)
       refine Kd.R_append_step k44 (w0 := w) w.heap.size (by rfl) (.tmp 26) (.tmp 32) 24 44 (.agg #[(.int .i64 0), (.int .i64 0), (.int .i64 0), (.int .i64 0), (.int .i64 0), (.string ⟨#[]⟩)]) 56 rfl Try.underlying24 info44 rfl (by decide) (by omega) u1351000 AI (⟨(rd_T44 l0_0 AD).f0, (⟨(rd_T44 l0_0 AD).f1.f0, (rd_T44 l0_0 AD).f1.f1, (rd_T44 l0_0 AD).f1.f2, (rd_T44 l0_0 AD).f1.f3, (rd_T44 l0_0 AD).f1.f4⟩ : S36)⟩ : S44) [.int .i64 ((rd_T44 l0_0 AD).f0), .int .i64 ((rd_T44 l0_0 AD).f1.f0), .int .i64 ((rd_T44 l0_0 AD).f1.f1), .int .i64 ((rd_T44 l0_0 AD).f1.f2), .int .i64 ((rd_T44 l0_0 AD).f1.f3), .string ((rd_T44 l0_0 AD).f1.f4)] (fun _ => True) (fun _ => False) rfl rfl ?aP (fun _ hk => hk.elim) ?aF ?aO ?aB ?aS ?aL ?_
       (case aP => exact k44_mkM _ _ _ (⟨(rd_T44 l0_0 AD).f0, (⟨(rd_T44 l0_0 AD).f1.f0, (rd_T44 l0_0 AD).f1.f1, (rd_T44 l0_0 AD).f1.f2, (rd_T44 l0_0 AD).f1.f3, (rd_T44 l0_0 AD).f1.f4⟩ : S36)⟩ : S44))
       (case aB => exact zB)
       (case aF => exact (fun _ _ => trivial))
       (case aO => exact (zr AA))
       (case aS => exact (below_size zB))
       (case aL => have := LMc14.out; omega)
       intro v1356 Bp ho hb hg hat; rw [← Ny1355.out] at ho; replace AB := zgr hg (zb AB) (Kd.R_ne AA.out AB.out (by decide)); replace AE := zgr hg (zb AE) (Kd.R_ne AA.out AE.out (by decide)); replace AC := zgr hg (zb AC) (Kd.R_ne AA.out AC.out (by decide)); replace HB := zm hb; have AW := zm (ho); clear AA; clear ho hb hg hat; obtain ⟨B3, BD, eo21⟩ := Kd.R_slice AW.out
       (first | subst eo21 | (injection eo21 with f1_ f2_ f3_; have f4_ := f1_.symm; have f5_ := f3_.symm; clear f1_ f2_ f3_; subst f4_; subst f5_))
       refine hK.out _ _ zS (fun hHeld => ?_); clear hK K; refine zn (N := some 33) ?_
       refine zu 9 34 11 1023 ?_
       refine last_ (i := 10) (N := none) #[true, true, true, true, true, true, true, true, true, true, true] rfl rfl (one_of HT_.out (by kernel_rfl)) (by decide) (fun K hK => ?_)
       have hs22 : Bp.cell? ⟨AP, 0, none⟩ = some (u1351000) := (blk_cell AC.out 0).trans rfl; have hfs22 := blk_frozen AC.out 0; have hns22_0 := AG.out; have hns22_1 := AK.out; have hms22_0 := AJ.out; have hms22_1 := AO.out
       refine skip_ (w1 := ?_) (by rfl) rfl ?_ ?_
       rotate_left
       ·go_simp
        rfl
       refine hK.out _ _ ?_; clear hK K
       refine done_ (done_of HT_.out (by kernel_rfl)) ?_
       try go_wp2
       go_roundg k1
       case measure => have := AT.out; omega
       case rel => exact ⟨(wrap64 (AD + 1)), (y1355), (.slice B3 y1355.length BD), zF, H', ⟨by have := AT.out; omega⟩, ⟨zrs <| Kd.R_mono (zfr (Kd.R_types AW.out AC.out (by decide))) (fun _ hk => trivial)⟩, ⟨zfar (zb AB) AG⟩, ⟨zfar (zb AE) AK⟩, ⟨zput (zb AC) 0⟩, ⟨zB⟩⟩
      ·rw [if_neg Ag] at H
       exact absurd H (by simp)
     ·replace Af := Bool.eq_false_iff.mpr Af; subst Af; rw [zff] at H
      have H' := zm H
      clear H; have Bv := AM.out; have C8 := AN.out; have Bw := AG.out; have C9 := AJ.out; obtain ⟨BJ, BK, BX, BY⟩ := zc2 AB; have p1351 : 0 ≤ (AD : Int) := zd; have q1351 : AD < (l0_0.length : Int) := zd; obtain ⟨ad1351, e1351, hx1351_0, hx1351_1, hx1351_2, hx1351_3, hx1351_4, hx1351_5⟩ := at_T44 (Kd.C_below HR0_0.out HB.out) AD p1351 q1351; cases e1351; replace p1351 := eq_true p1351; replace q1351 := eq_true q1351
      go_wp2_with (first | ((with_reducible refine gate_callee (f := 36) rfl ?_); refine zg (some 23) #[.int .i64 ((rd_T44 l0_0 AD).f0)] Try.func36 ?_; (with_reducible refine (spec_LeafOf.calls k1 ((rd_T44 l0_0 AD).f0) AR _ Ay.out).mono ?_); rintro e CO ⟨rfl, hb⟩; refine ⟨_, rfl, ?_⟩; replace AA := zw AA hb; replace AB := zy AB hb; replace AE := zy AE hb; replace AC := zy AC hb; replace HB := zm (below_step zB hb); clear hb) | ((with_reducible refine gate_callee (f := 113) rfl ?_); refine zg (some 24) #[.slice A1 l1.length c1, .int .i64 AR] Try.func113 ?_; (with_reducible refine (spec_l1Has.calls k1 _ _ l1 AR false _ (zk (Kd.C_below HR1.out HB.out)) Ac.out Az.out).mono ?_); rintro e w' ⟨rfl, ⟨nd, rfl⟩⟩; refine ⟨_, rfl, ?_⟩))
      go_roundg k1
      case measure => have := AT.out; omega
      case rel => exact ⟨(wrap64 (AD + 1)), (AI), (u1351000), zF, H', ⟨by have := AT.out; omega⟩, ⟨zr AA⟩, ⟨zb AB⟩, ⟨zb AE⟩, ⟨zb AC⟩, ⟨zB⟩⟩
    ·rw [if_neg Ae] at H
     exact absurd H (by simp)
   ·rw [if_neg c9] at H; have Au : decide (AD < (l0_0.length : Int)) = false := decide_eq_false c9; clear c9
    have H' := zm H
    clear H; have Bx := AM.out; have CA := AN.out; have By := AG.out; have CB := AJ.out; obtain ⟨Am, An, Ao, Ap⟩ := zc2 AB
    go_wp2
    go_loopg [7] k1 (fun kq v7 w' => ∃ (AH : Int) (AL : List (S58)) (u1351001 : Value), v7 = .int .i64 AH ∧ Aside0 (spec_l6Slice.l1 kq l1 AH l0_0 l0_1 AI AL = some (r1, r2)) ∧ Aside0 (kq ≤ k1) ∧ Aside0 (Kd.R k44 44 w' w.heap.size (fun _ => True) u1351000 AI) ∧ Aside0 (Kd.R k58 58 w' w.heap.size (fun _ => True) u1351001 AL) ∧ Aside0 (w'.heap[AQ]? = some (.cells #[(.slice A0_0 l0_0.length c0_0), (.slice A0_1 l0_1.length c0_1)] 27 (0, 0))) ∧ Aside0 (w'.heap[AU]? = some (.cells #[(.slice none 0 0), (.slice none 0 0)] 27 (0, 0))) ∧ Aside0 (w'.heap[AP]? = some (.cells #[u1351000, u1351001] 27 (0, 0))) ∧ Aside0 (Below w.heap.size w w'))
    case atStart => exact ⟨(0), (([] : List (S58))), (.slice none 0 0), zF, H', ⟨Nat.le_refl _⟩, ⟨zr AA⟩, ⟨znil⟩, ⟨zb AB⟩, ⟨zb AE⟩, ⟨zb AC⟩, ⟨zB⟩⟩
    case round =>
     clear H'; (try clear c1); (try clear c9); (try clear Au); (try clear Am); (try clear An); (try clear AY); (try clear AZ); (try clear Ao); (try clear Ap); (try clear Aa); (try clear Ab); obtain ⟨AH, AL, u1351001, rfl, HA, Ad, AA, AF, AB, AE, AC, HB⟩ := hrel
     cases gk with
     | zero => exact absurd HA.out (by simp [spec_l6Slice.l1])
     | succ k2 =>
      have H := HA.out; clear HA; simp only [spec_l6Slice.l1] at H
      by_cases AV : AH < (l0_1.length : Int)
      ·rw [if_pos AV] at H; have Av : decide (AH < (l0_1.length : Int)) = true := decide_eq_true AV; clear AV
       by_cases Ah : 0 ≤ AH
       ·rw [if_pos Ah] at H; have Bs : decide (0 ≤ AH) = true := decide_eq_true Ah; clear Ah; replace H := Option.bind_eq_some_iff.mp H; obtain ⟨AS, As, H⟩ := H; (try dsimp only at H); have B0 := zm As; clear As; replace H := Option.bind_eq_some_iff.mp H; obtain ⟨Ax, At, H⟩ := H; (try dsimp only at H); have B2 := zm At; clear At
        by_cases Ai : Ax = true
        ·subst Ai; rw [if_pos rfl] at H
         by_cases Aj : AL.length < 8796093022208
         ·rw [if_pos Aj] at H; have LMc35 := zm Aj; clear Aj
          obtain ⟨y1362, hy1362⟩ : ∃ y_ : List (S58), y_ = (AL ++ [(⟨(rd_T58 l0_1 AH).f0, (rd_T58 l0_1 AH).f1⟩ : S58)]) := ⟨_, rfl⟩
          replace H : (spec_l6Slice.l1 k2 l1 (wrap64 (AH + 1)) l0_0 l0_1 AI y1362) = some (r1, r2) := by first | (rw [hy1362]; with_reducible exact H) | (have H2_ := (Option.bind_some _ _).symm.trans H; rw [hy1362]; with_reducible exact H2_) | (have H2_ := (Option.bind_some _ _).symm.trans H; with_reducible exact H2_) | with_reducible exact H | (rw [hy1362]; exact H) | exact H
          have Ny1362 := zm hy1362; clear hy1362
          have H' := zm H
          clear H; have Bz := AM.out; have CC := AN.out; have C0 := AG.out; have CD := AJ.out; obtain ⟨BL, BM, BZ, Ba⟩ := zc2 AB; have p1358 : 0 ≤ (AH : Int) := zd; have q1358 : AH < (l0_1.length : Int) := zd; obtain ⟨ad1358, e1358, hx1358_0, hx1358_1⟩ := at_T58 (Kd.C_below HR0_1.out HB.out) AH p1358 q1358; cases e1358; replace p1358 := eq_true p1358; replace q1358 := eq_true q1358
          try go_wp2_with (first | ((with_reducible refine gate_callee (f := 36) rfl ?_); refine zg (some 49) #[.int .i64 ((rd_T58 l0_1 AH).f0)] Try.func36 ?_; (with_reducible refine (spec_LeafOf.calls k2 ((rd_T58 l0_1 AH).f0) AS _ B0.out).mono ?_); rintro e Al ⟨rfl, hb⟩; refine ⟨_, rfl, ?_⟩; replace AA := zw AA hb; replace AF := zw AF hb; replace AB := zy AB hb; replace AE := zy AE hb; replace AC := zy AC hb; replace HB := zm (below_step zB hb); clear hb) | ((with_reducible refine gate_callee (f := 113) rfl ?_); refine zg (some 50) #[.slice A1 l1.length c1, .int .i64 AS] Try.func113 ?_; (with_reducible refine (spec_l1Has.calls k2 _ _ l1 AS true _ (zk (Kd.C_below HR1.out HB.out)) Ac.out B2.out).mono ?_); rintro e w' ⟨rfl, ⟨nd, rfl⟩⟩; refine ⟨_, rfl, ?_⟩; (try (rw [drewN_self Al]; generalize hq_ : World.drewN Al _ = Al; have n0_ := zm (Kd.R_at hq_ AA.out); have n1_ := zm (Kd.R_at hq_ AF.out); have n2_ := zm (blk_at hq_ AB.out); have n3_ := zm (blk_at hq_ AE.out); have n4_ := zm (blk_at hq_ AC.out); have n5_ := zm (below_at hq_ HB.out); clear hq_ AA AF AB AE AC HB; have AA := n0_; have AF := n1_; have AB := n2_; have AE := n3_; have AC := n4_; have HB := n5_; clear n0_ n1_ n2_ n3_ n4_ n5_))))
          replace AA := zm (Kd.R_drew AA.out); replace AF := zm (Kd.R_drew AF.out); replace AB := zq AB; replace AE := zq AE; replace AC := zq AC; replace HB := zm (below_drew1 HB.out); have p1361 : 0 ≤ (AH : Int) := zd; have q1361 : AH < (l0_1.length : Int) := zd; obtain ⟨ad1361, e1361, hx1361_0, hx1361_1⟩ := at_T58 HR0_1.out AH p1361 q1361; have hw1361_1 := hx1361_1; have hw1361_0 := hx1361_0
          obtain rfl : ad1358 = ad1361 := (by injection e1361)
          replace hx1361_0 := zx HB hx1361_0; replace hx1361_1 := zx HB hx1361_1; replace p1361 := eq_true p1361; replace q1361 := eq_true q1361
          refine start_ (n := 11) (S := fun w' => w'.cell? ⟨AP, 0, none⟩ = some (u1351000) ∧ w'.cell? ⟨AP, 1, none⟩ = some (u1351001) ∧ w'.cell? ⟨AQ, 0, none⟩ = some (.slice A0_0 l0_0.length c0_0) ∧ w'.cell? ⟨AQ, 1, none⟩ = some (.slice (some ad1358) l0_1.length c0_1) ∧ w'.cell? (ad1358.add ((AH).toNat * 2)) = some (.int .i64 ((rd_T58 l0_1 AH).f0)) ∧ w'.cell? ⟨(ad1358.add ((AH).toNat * 2)).block, (ad1358.add ((AH).toNat * 2)).off + 1, none⟩ = some (.int .i64 ((rd_T58 l0_1 AH).f1))) (ds := [10]) (zl 11 0) (by kernel_rfl) rfl rfl zS (fun hHeld => ?_); refine with_tabW spec_l6Slice.tab11 spec_l6Slice.bits11 (fun HT_ HW_ => ?_)
          generalize Al.drew = CP at AA AF AB AE AC HB hx1361_0 hx1361_1 hHeld ⊢
          refine zu 0 51 11 1 ?_
          refine zu 2 53 11 5 ?_
          refine zu 4 55 11 21 ?_
          refine zv 1 52 11 23 ?_
          refine zv 3 54 11 31 ?_
          refine zu 5 56 11 63 ?_
          refine zv 6 57 11 127 ?_
          refine zo 7 (some 58) (zl 11 255) (fun K hK => ?_)
          refine value_ (w1 := ?_) (v := ?_) (by rfl) rfl ?_ ?_
          rotate_left 2
          ·go_simp
           constructor
           ·rfl
           ·rfl
          refine hK.out _ _ ⟨(blk_cell (blk_alloc AC.out _) 0).trans rfl, (blk_cell (blk_alloc AC.out _) 1).trans rfl, (blk_cell (blk_alloc AB.out _) 0).trans rfl, (blk_cell (blk_alloc AB.out _) 1).trans rfl, (World.cell?_alloc_lt _ _ _ (World.block_lt_of_cell? _ _ (((HB.out.cell (World.block_lt_of_cell? w _ hw1361_0)).trans hw1361_0)))).trans (((HB.out.cell (World.block_lt_of_cell? w _ hw1361_0)).trans hw1361_0)), (World.cell?_alloc_lt _ _ _ (World.block_lt_of_cell? _ _ (((HB.out.cell (World.block_lt_of_cell? w _ hw1361_1)).trans hw1361_1)))).trans (((HB.out.cell (World.block_lt_of_cell? w _ hw1361_1)).trans hw1361_1))⟩ (fun hHeld => ?_); clear hK K; refine zn (N := some 58) ?_; refine zo 8 (some 59) (zl 11 511) (fun K hK => ?_)
          refine Kd.R_append_step k58 (w0 := w) w.heap.size (by rfl) (.tmp 52) (.tmp 58) 25 58 (.agg #[(.int .i64 0), (.int .i64 0)]) 16 rfl Try.underlying25 info58 rfl (by decide) (by omega) u1351001 AL (⟨(rd_T58 l0_1 AH).f0, (rd_T58 l0_1 AH).f1⟩ : S58) [.int .i64 ((rd_T58 l0_1 AH).f0), .int .i64 ((rd_T58 l0_1 AH).f1)] (fun _ => True) (fun _ => False) rfl rfl ?aP (fun _ hk => hk.elim) ?aF ?aO ?aB ?aS ?aL ?_
          (case aP => exact k58_mkM _ _ _ (⟨(rd_T58 l0_1 AH).f0, (rd_T58 l0_1 AH).f1⟩ : S58))
          (case aB => exact zB)
          (case aF => exact (fun _ _ => trivial))
          (case aO => exact (zr AF))
          (case aS => exact (below_size zB))
          (case aL => have := LMc35.out; omega)
          intro v1363 Bq ho hb hg hat; rw [← Ny1362.out] at ho; replace AA := zm (Kd.R_over' (zr AA) (Kd.R_typed (zr AF)) (by decide) hg); replace AB := zgr hg (zb AB) (Kd.R_ne AF.out AB.out (by decide)); replace AE := zgr hg (zb AE) (Kd.R_ne AF.out AE.out (by decide)); replace AC := zgr hg (zb AC) (Kd.R_ne AF.out AC.out (by decide)); replace HB := zm hb; have AX := zm (ho); clear AF; clear ho hb hg hat; obtain ⟨BA, BE, eo42⟩ := Kd.R_slice AX.out
          (first | subst eo42 | (injection eo42 with f1_ f2_ f3_; have f4_ := f1_.symm; have f5_ := f3_.symm; clear f1_ f2_ f3_; subst f4_; subst f5_))
          refine hK.out _ _ zS (fun hHeld => ?_); clear hK K; refine zn (N := some 59) ?_
          refine zu 9 60 11 1023 ?_
          refine last_ (i := 10) (N := none) #[true, true, true, true, true, true, true, true, true, true, true] rfl rfl (one_of HT_.out (by kernel_rfl)) (by decide) (fun K hK => ?_)
          have hs43 : Bq.cell? ⟨AP, 1, none⟩ = some (u1351001) := (blk_cell AC.out 1).trans rfl; have hfs43 := blk_frozen AC.out 1; have hns43_0 := AG.out; have hns43_1 := AK.out; have hms43_0 := AJ.out; have hms43_1 := AO.out
          refine skip_ (w1 := ?_) (by rfl) rfl ?_ ?_
          rotate_left
          ·go_simp
           rfl
          refine hK.out _ _ ?_; clear hK K
          refine done_ (done_of HT_.out (by kernel_rfl)) ?_
          try go_wp2
          go_roundg k2
          case measure => have := AT.out; have := Ad.out; omega
          case rel => exact ⟨(wrap64 (AH + 1)), (y1362), (.slice BA y1362.length BE), zF, H', ⟨by have := AT.out; have := Ad.out; omega⟩, ⟨zrs <| Kd.R_mono (zfr (Kd.R_types AA.out AC.out (by decide))) (fun _ hk => trivial)⟩, ⟨zrs <| Kd.R_mono (zfr (Kd.R_types AX.out AC.out (by decide))) (fun _ hk => trivial)⟩, ⟨zfar (zb AB) AG⟩, ⟨zfar (zb AE) AK⟩, ⟨zput (zb AC) 1⟩, ⟨zB⟩⟩
         ·rw [if_neg Aj] at H
          exact absurd H (by simp)
        ·replace Ai := Bool.eq_false_iff.mpr Ai; subst Ai; rw [zff] at H
         have H' := zm H
         clear H; have C1 := AM.out; have CE := AN.out; have C2 := AG.out; have CF := AJ.out; obtain ⟨BN, BO, Bb, Bc⟩ := zc2 AB; have p1358 : 0 ≤ (AH : Int) := zd; have q1358 : AH < (l0_1.length : Int) := zd; obtain ⟨ad1358, e1358, hx1358_0, hx1358_1⟩ := at_T58 (Kd.C_below HR0_1.out HB.out) AH p1358 q1358; cases e1358; replace p1358 := eq_true p1358; replace q1358 := eq_true q1358
         go_wp2_with (first | ((with_reducible refine gate_callee (f := 36) rfl ?_); refine zg (some 49) #[.int .i64 ((rd_T58 l0_1 AH).f0)] Try.func36 ?_; (with_reducible refine (spec_LeafOf.calls k2 ((rd_T58 l0_1 AH).f0) AS _ B0.out).mono ?_); rintro e CQ ⟨rfl, hb⟩; refine ⟨_, rfl, ?_⟩; replace AA := zw AA hb; replace AF := zw AF hb; replace AB := zy AB hb; replace AE := zy AE hb; replace AC := zy AC hb; replace HB := zm (below_step zB hb); clear hb) | ((with_reducible refine gate_callee (f := 113) rfl ?_); refine zg (some 50) #[.slice A1 l1.length c1, .int .i64 AS] Try.func113 ?_; (with_reducible refine (spec_l1Has.calls k2 _ _ l1 AS false _ (zk (Kd.C_below HR1.out HB.out)) Ac.out B2.out).mono ?_); rintro e w' ⟨rfl, ⟨nd, rfl⟩⟩; refine ⟨_, rfl, ?_⟩))
         go_roundg k2
         case measure => have := AT.out; have := Ad.out; omega
         case rel => exact ⟨(wrap64 (AH + 1)), (AL), (u1351001), zF, H', ⟨by have := AT.out; have := Ad.out; omega⟩, ⟨zr AA⟩, ⟨zr AF⟩, ⟨zb AB⟩, ⟨zb AE⟩, ⟨zb AC⟩, ⟨zB⟩⟩
       ·rw [if_neg Ah] at H
        exact absurd H (by simp)
      ·rw [if_neg AV] at H; have Av : decide (AH < (l0_1.length : Int)) = false := decide_eq_false AV; clear AV; simp only [Option.some.injEq, Prod.mk.injEq] at H; obtain ⟨rfl, rfl⟩ := H; have C3 := AM.out; have CG := AN.out; have C4 := AG.out; have CH := AJ.out; obtain ⟨BP, BQ, Bd, Be⟩ := zc2 AB; have C5 := AO.out; have CI := AK.out; obtain ⟨BR, BS, Bf, Bg⟩ := zc2 AC; obtain ⟨BB, BF, eo53⟩ := Kd.R_slice AA.out; subst eo53; obtain ⟨BT, BU, Bh, Bi⟩ := zc2 AE; obtain ⟨BC, BG, eo55⟩ := Kd.R_slice AF.out; subst eo55
       go_wp2
       refine bodyPost_ret (results_cell_row rfl _ _ AU 27 #[.slice BB AI.length BF, .slice BC AL.length BG] (0, 0) _ rfl (zput (zput (zb AE) 0) 1) Try.underlying27 rfl (by kernel_rfl)) rfl ?_
       exact ⟨_, _, zE, zrs <| Kd.R_mono (zfr (zfr (Kd.R_types AA.out AE.out (by decide)))) (fun _ hk => trivial), zrs <| Kd.R_mono (zfr (zfr (Kd.R_types AF.out AE.out (by decide)))) (fun _ hk => trivial), zB⟩

end Go.Proofs.Ytnmofppbijmhoaa.P
