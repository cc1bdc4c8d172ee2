-- by a program of this session, for this seat
import Derived.Test.YtgapdegniepjiaaZ
import Derived.Test.YtgapdegniepjiaaP0
namespace Go.Proofs.Ytgapdegniepjiaa.P
open Go.RowKit Go.Proofs.YtgapdegniepjiaaW.PrintWords Go.Proofs.YtgapdegniepjiaaW.PrintLast Go.Proofs.YtgapdegniepjiaaW.PrintMore Go.Proofs.Ytgapdegniepjiaa.Z
attribute [local go_sem] max2_int min2_int max_two min_two max_three min_three max_four min_four   -- for this text's walks alone
set_option linter.unusedVariables false
set_option linter.unusedSimpArgs false

/-! ### laws_szEntry: function 109 -/
def laws_szEntry.f (a0_0 : Int) (a0_1 : Int) (a0_2 : Int) (a0_3 : Int) (a0_4 : ByteArray) (a1 : Int) : Option (Int) := if (wrap64 (a1 - (a0_4.size : Int))) < 0 then (some (-1)) else (some (wrap64 (a1 - (a0_4.size : Int))))
set_option maxHeartbeats 8000000 in
set_option maxRecDepth 100000 in
theorem laws_szEntry.calls (a0_0 : Int) (a0_1 : Int) (a0_2 : Int) (a0_3 : Int) (a0_4 : ByteArray) (a1 : Int) (r : Int) (w : World) (h : laws_szEntry.f a0_0 a0_1 a0_2 a0_3 a0_4 a1 = some r) :
  Calls Try.prog 109 #[.agg #[.int .i64 a0_0, .int .i64 a0_1, .int .i64 a0_2, .int .i64 a0_3, .string a0_4], .int .i64 a1] w fun e w' => e = .returned (.int .i64 r) ∧ Below w.heap.size w w' := by
 have hu92 := Try.underlying92; have HB := zm (Below.refl w.heap.size w); have H : (if (wrap64 (a1 - (a0_4.size : Int))) < 0 then (some (-1)) else (some (wrap64 (a1 - (a0_4.size : Int))))) = some r := h; clear h
 by_cases c3 : (wrap64 (a1 - (a0_4.size : Int))) < 0
 ·rw [if_pos c3] at H; have c3b0 : decide ((wrap64 (a1 - (a0_4.size : Int))) < 0) = true := decide_eq_true c3; clear c3; obtain rfl := Option.some.inj H; go_enter Try.func109, Try.ntmps109
  go_wp2_with (first | (refine zbox 2 #[.int .i64 a0_0, .int .i64 a0_1, .int .i64 a0_2, .int .i64 a0_3, .string a0_4] 92 ?_; intro gb101 hg w4 hbox hb; have BK101 := zm (hbox); have GW101 := zge w hg zB; have GE101 := zge w hg zB; replace HB := zm (below_step zB hb); clear hb hbox hg; obtain ⟨hcz5_0, hcz5_1, hcz5_2, hcz5_3, hcz5_4, hfz5_0, hfz5_1, hfz5_2, hfz5_3, hfz5_4⟩ := zc5 BK101))
  go_ret
  exact ⟨zE, zB⟩
 ·rw [if_neg c3] at H; have c3b0 : decide ((wrap64 (a1 - (a0_4.size : Int))) < 0) = false := decide_eq_false c3; clear c3; obtain rfl := Option.some.inj H; go_enter Try.func109, Try.ntmps109
  go_wp2_with (first | (refine zbox 2 #[.int .i64 a0_0, .int .i64 a0_1, .int .i64 a0_2, .int .i64 a0_3, .string a0_4] 92 ?_; intro gb101 hg w6 hbox hb; have BK101 := zm (hbox); have GW101 := zge w hg zB; have GE101 := zge w hg zB; replace HB := zm (below_step zB hb); clear hb hbox hg; obtain ⟨hcz7_0, hcz7_1, hcz7_2, hcz7_3, hcz7_4, hfz7_0, hfz7_1, hfz7_2, hfz7_3, hfz7_4⟩ := zc5 BK101))
  go_ret
  exact ⟨zE, zB⟩

/-! ### laws_szItem: function 88 -/
def laws_szItem.f (a0_0 : Int) (a0_1 : Int) (a0_2 : Int) (a0_3 : Int) (a0_4 : Int) (a0_5 : ByteArray) (a1 : Int) : Option (Int) := (laws_szEntry.f a0_1 a0_2 a0_3 a0_4 a0_5 a1).bind fun t103 => (if t103 < 0 then (some (-1)) else (some t103))
set_option maxHeartbeats 8000000 in
set_option maxRecDepth 100000 in
theorem laws_szItem.calls (a0_0 : Int) (a0_1 : Int) (a0_2 : Int) (a0_3 : Int) (a0_4 : Int) (a0_5 : ByteArray) (a1 : Int) (r : Int) (w : World) (h : laws_szItem.f a0_0 a0_1 a0_2 a0_3 a0_4 a0_5 a1 = some r) :
  Calls Try.prog 88 #[.agg #[.int .i64 a0_0, .int .i64 a0_1, .int .i64 a0_2, .int .i64 a0_3, .int .i64 a0_4, .string a0_5], .int .i64 a1] w fun e w' => e = .returned (.int .i64 r) ∧ Below w.heap.size w w' := by
 have hu94 := Try.underlying94; have hu92 := Try.underlying92; have HB := zm (Below.refl w.heap.size w); have H : ((laws_szEntry.f a0_1 a0_2 a0_3 a0_4 a0_5 a1).bind fun t103 => (if t103 < 0 then (some (-1)) else (some t103))) = some r := h; clear h; replace H := Option.bind_eq_some_iff.mp H; obtain ⟨t103, A30, H⟩ := H; (try dsimp only at H); have A3 := zm A30; clear A30
 by_cases c4 : t103 < 0
 ·rw [if_pos c4] at H; have c4b0 : decide (t103 < 0) = true := decide_eq_true c4; clear c4; obtain rfl := Option.some.inj H; go_enter Try.func88, Try.ntmps88
  go_wp2_with (first | (refine zbox 2 #[.int .i64 a0_0, .int .i64 a0_1, .int .i64 a0_2, .int .i64 a0_3, .int .i64 a0_4, .string a0_5] 94 ?_; intro gb102 hg w5 hbox hb; have BK102 := zm (hbox); have GW102 := zge w hg zB; have GE102 := zge w hg zB; replace HB := zm (below_step zB hb); clear hb hbox hg; obtain ⟨hcz6_0, hcz6_1, hcz6_2, hcz6_3, hcz6_4, hcz6_5, hfz6_0, hfz6_1, hfz6_2, hfz6_3, hfz6_4, hfz6_5⟩ := zc6 BK102) | (refine zg (some 8) #[.agg #[.int .i64 a0_1, .int .i64 a0_2, .int .i64 a0_3, .int .i64 a0_4, .string a0_5], .int .i64 a1] Try.func109 ?_; (with_reducible refine (laws_szEntry.calls a0_1 a0_2 a0_3 a0_4 a0_5 a1 t103 _ A3.out).mono ?_); rintro e w7 ⟨rfl, hb⟩; refine ⟨_, rfl, ?_⟩; replace BK102 := zy BK102 hb; replace HB := zm (below_step zB hb); clear hb))
  go_ret
  exact ⟨zE, zB⟩
 ·rw [if_neg c4] at H; have c4b0 : decide (t103 < 0) = false := decide_eq_false c4; clear c4; obtain rfl := Option.some.inj H; go_enter Try.func88, Try.ntmps88
  go_wp2_with (first | (refine zbox 2 #[.int .i64 a0_0, .int .i64 a0_1, .int .i64 a0_2, .int .i64 a0_3, .int .i64 a0_4, .string a0_5] 94 ?_; intro gb102 hg w8 hbox hb; have BK102 := zm (hbox); have GW102 := zge w hg zB; have GE102 := zge w hg zB; replace HB := zm (below_step zB hb); clear hb hbox hg; obtain ⟨hcz9_0, hcz9_1, hcz9_2, hcz9_3, hcz9_4, hcz9_5, hfz9_0, hfz9_1, hfz9_2, hfz9_3, hfz9_4, hfz9_5⟩ := zc6 BK102) | (refine zg (some 8) #[.agg #[.int .i64 a0_1, .int .i64 a0_2, .int .i64 a0_3, .int .i64 a0_4, .string a0_5], .int .i64 a1] Try.func109 ?_; (with_reducible refine (laws_szEntry.calls a0_1 a0_2 a0_3 a0_4 a0_5 a1 t103 _ A3.out).mono ?_); rintro e w10 ⟨rfl, hb⟩; refine ⟨_, rfl, ?_⟩; replace BK102 := zy BK102 hb; replace HB := zm (below_step zB hb); clear hb))
  go_ret
  exact ⟨zE, zB⟩

/-! ### laws_szItemS: function 47 -/
def laws_szItemS.l0 : Nat → List (S94) → Int → Int → Option (Int)
 | 0, _, _, _ => none
 | k + 1, x0, x1, x5 => if x5 < (x0.length : Int) then (if 0 ≤ x5 then ((laws_szItem.f ((rd_T94 x0 x5).f0) ((rd_T94 x0 x5).f1.f0) ((rd_T94 x0 x5).f1.f1) ((rd_T94 x0 x5).f1.f2) ((rd_T94 x0 x5).f1.f3) ((rd_T94 x0 x5).f1.f4) x1).bind fun t105 => (if t105 < 0 then (some (-1)) else (laws_szItemS.l0 k x0 t105 (wrap64 (x5 + 1))))) else (none)) else (some x1)
def laws_szItemS.f (k : Nat) (l0 : List (S94)) (a1 : Int) : Option (Int) := if (wrap64 (a1 - (l0.length : Int))) < 0 then (some (-1)) else (laws_szItemS.l0 k l0 (wrap64 (a1 - (l0.length : Int))) 0)
theorem laws_szItemS.mono_l : ∀ k, (∀ y0 y1 y2, LeO (laws_szItemS.l0 k y0 y1 y2) (laws_szItemS.l0 (k + 1) y0 y1 y2))
 | 0 => fun _ _ _ r h => by simp [laws_szItemS.l0] at h
 | k + 1 => by
  have ih0 := laws_szItemS.mono_l k
  ·intro y0 y1 y2
   unfold laws_szItemS.l0
   repeat' first | (with_reducible first | exact LeO.refl _ | exact LeO.none _ | refine LeO.ite ?_ ?_ | refine LeO.bind ?_ (fun _ => ?_) | apply ih0) | apply ih0 | exact LeO.none _ | refine LeO.ite ?_ ?_ | refine LeO.bind ?_ (fun _ => ?_)
theorem laws_szItemS.mono : ∀ a0 a1 k, LeO (laws_szItemS.f k a0 a1) (laws_szItemS.f (k + 1) a0 a1) := by
 intro a0 a1 k; have ih0 := laws_szItemS.mono_l k
 unfold laws_szItemS.f
 repeat' first | (with_reducible first | exact LeO.refl _ | exact LeO.none _ | refine LeO.ite ?_ ?_ | refine LeO.bind ?_ (fun _ => ?_) | apply ih0) | apply ih0 | exact LeO.none _ | refine LeO.ite ?_ ?_ | refine LeO.bind ?_ (fun _ => ?_)
set_option maxHeartbeats 8000000 in
set_option maxRecDepth 100000 in
theorem laws_szItemS.calls (k : Nat) (A0 : Option Addr) (c0 : Nat) (l0 : List (S94)) (a1 : Int) (r : Int) (w : World) (hr0 : Kd.C k94 w A0 l0.length l0) (hc0 : l0.length ≤ c0) (h : laws_szItemS.f k l0 a1 = some r) :
  Calls Try.prog 47 #[.slice A0 l0.length c0, .int .i64 a1] w fun e w' => e = .returned (.int .i64 r) ∧ Below w.heap.size w w' := by
 have hu94 := Try.underlying94; have HR0 := zm hr0; have HC0 := zm hc0; clear hr0 hc0; have HB := zm (Below.refl w.heap.size w); have H : (if (wrap64 (a1 - (l0.length : Int))) < 0 then (some (-1)) else (laws_szItemS.l0 k l0 (wrap64 (a1 - (l0.length : Int))) 0)) = some r := h; clear h
 by_cases c3 : (wrap64 (a1 - (l0.length : Int))) < 0
 ·rw [if_pos c3] at H; have c3b0 : decide ((wrap64 (a1 - (l0.length : Int))) < 0) = true := decide_eq_true c3; clear c3; obtain rfl := Option.some.inj H; go_enter Try.func47, Try.ntmps47
  go_wp2
  go_ret
  exact ⟨zE, zB⟩
 ·rw [if_neg c3] at H; have c3b0 : decide ((wrap64 (a1 - (l0.length : Int))) < 0) = false := decide_eq_false c3; clear c3
  have H' := zm H
  clear H; go_enter Try.func47, Try.ntmps47
  go_wp2
  go_loopg [1, 5] k (fun kq v1 v5 w' => ∃ (x1_1 : Int) (x5_1 : Int), v1 = .int .i64 x1_1 ∧ v5 = .int .i64 x5_1 ∧ Aside0 (laws_szItemS.l0 kq l0 x1_1 x5_1 = some r) ∧ Aside0 (kq ≤ k) ∧ Aside0 (Below w.heap.size w w'))
  case atStart => exact ⟨(wrap64 (a1 - (l0.length : Int))), (0), zF, zF, H', ⟨Nat.le_refl _⟩, ⟨zB⟩⟩
  case round =>
   clear H'; (try clear c3); (try clear c3b0); obtain ⟨x1_1, x5_1, rfl, rfl, HA, HK1, HB⟩ := hrel
   cases gk with
   | zero => exact absurd HA.out (by simp [laws_szItemS.l0])
   | succ k1 =>
    have H := HA.out; clear HA; simp only [laws_szItemS.l0] at H
    by_cases c4 : x5_1 < (l0.length : Int)
    ·rw [if_pos c4] at H; have c4b0 : decide (x5_1 < (l0.length : Int)) = true := decide_eq_true c4; clear c4
     by_cases c5 : 0 ≤ x5_1
     ·rw [if_pos c5] at H; have c5b0 : decide (0 ≤ x5_1) = true := decide_eq_true c5; clear c5; replace H := Option.bind_eq_some_iff.mp H; obtain ⟨t105, A60, H⟩ := H; (try dsimp only at H); have A6 := zm A60; clear A60
      by_cases c7 : t105 < 0
      ·rw [if_pos c7] at H; have c7b0 : decide (t105 < 0) = true := decide_eq_true c7; clear c7; obtain rfl := Option.some.inj H; have p104 : 0 ≤ (x5_1 : Int) := zd; have q104 : x5_1 < (l0.length : Int) := zd; obtain ⟨ad104, e104, hx104_0, hx104_1, hx104_2, hx104_3, hx104_4, hx104_5⟩ := at_T94 (Kd.C_below HR0.out HB.out) x5_1 p104 q104; cases e104; replace p104 := eq_true p104; replace q104 := eq_true q104
       go_wp2_with (first | (refine zg (some 23) #[.agg #[.int .i64 ((rd_T94 l0 x5_1).f0), .int .i64 ((rd_T94 l0 x5_1).f1.f0), .int .i64 ((rd_T94 l0 x5_1).f1.f1), .int .i64 ((rd_T94 l0 x5_1).f1.f2), .int .i64 ((rd_T94 l0 x5_1).f1.f3), .string ((rd_T94 l0 x5_1).f1.f4)], .int .i64 x1_1] Try.func88 ?_; (with_reducible refine (laws_szItem.calls ((rd_T94 l0 x5_1).f0) ((rd_T94 l0 x5_1).f1.f0) ((rd_T94 l0 x5_1).f1.f1) ((rd_T94 l0 x5_1).f1.f2) ((rd_T94 l0 x5_1).f1.f3) ((rd_T94 l0 x5_1).f1.f4) x1_1 t105 _ A6.out).mono ?_); rintro e w8 ⟨rfl, hb⟩; refine ⟨_, rfl, ?_⟩; replace HB := zm (below_step zB hb); clear hb))
       go_ret
       exact ⟨zE, zB⟩
      ·rw [if_neg c7] at H; have c7b0 : decide (t105 < 0) = false := decide_eq_false c7; clear c7
       have H' := zm H
       clear H; have p104 : 0 ≤ (x5_1 : Int) := zd; have q104 : x5_1 < (l0.length : Int) := zd; obtain ⟨ad104, e104, hx104_0, hx104_1, hx104_2, hx104_3, hx104_4, hx104_5⟩ := at_T94 (Kd.C_below HR0.out HB.out) x5_1 p104 q104; cases e104; replace p104 := eq_true p104; replace q104 := eq_true q104
       go_wp2_with (first | (refine zg (some 23) #[.agg #[.int .i64 ((rd_T94 l0 x5_1).f0), .int .i64 ((rd_T94 l0 x5_1).f1.f0), .int .i64 ((rd_T94 l0 x5_1).f1.f1), .int .i64 ((rd_T94 l0 x5_1).f1.f2), .int .i64 ((rd_T94 l0 x5_1).f1.f3), .string ((rd_T94 l0 x5_1).f1.f4)], .int .i64 x1_1] Try.func88 ?_; (with_reducible refine (laws_szItem.calls ((rd_T94 l0 x5_1).f0) ((rd_T94 l0 x5_1).f1.f0) ((rd_T94 l0 x5_1).f1.f1) ((rd_T94 l0 x5_1).f1.f2) ((rd_T94 l0 x5_1).f1.f3) ((rd_T94 l0 x5_1).f1.f4) x1_1 t105 _ A6.out).mono ?_); rintro e w9 ⟨rfl, hb⟩; refine ⟨_, rfl, ?_⟩; replace HB := zm (below_step zB hb); clear hb))
       go_roundg k1
       case measure => have := HK1.out; omega
       case rel => exact ⟨(t105), (wrap64 (x5_1 + 1)), zF, zF, H', ⟨by have := HK1.out; omega⟩, ⟨zB⟩⟩
     ·rw [if_neg c5] at H
      exact absurd H (by simp)
    ·rw [if_neg c4] at H; have c4b0 : decide (x5_1 < (l0.length : Int)) = false := decide_eq_false c4; clear c4; obtain rfl := Option.some.inj H
     go_wp2
     go_ret
     exact ⟨zE, zB⟩

/-! ### laws_szFloorS: function 48 -/
def laws_szFloorS.f (l0 : List (S98)) (a1 : Int) : Option (Int) := if (wrap64 (a1 - (l0.length : Int))) < 0 then (some (-1)) else (some (wrap64 (a1 - (l0.length : Int))))
set_option maxHeartbeats 8000000 in
set_option maxRecDepth 100000 in
theorem laws_szFloorS.calls (A0 : Option Addr) (c0 : Nat) (l0 : List (S98)) (a1 : Int) (r : Int) (w : World) (hr0 : Kd.C k98 w A0 l0.length l0) (hc0 : l0.length ≤ c0) (h : laws_szFloorS.f l0 a1 = some r) :
  Calls Try.prog 48 #[.slice A0 l0.length c0, .int .i64 a1] w fun e w' => e = .returned (.int .i64 r) ∧ Drawn0 w w' := by
 have HR0 := zm hr0; have HC0 := zm hc0; clear hr0 hc0; have H : (if (wrap64 (a1 - (l0.length : Int))) < 0 then (some (-1)) else (some (wrap64 (a1 - (l0.length : Int))))) = some r := h; clear h
 by_cases c3 : (wrap64 (a1 - (l0.length : Int))) < 0
 ·rw [if_pos c3] at H; have c3b0 : decide ((wrap64 (a1 - (l0.length : Int))) < 0) = true := decide_eq_true c3; clear c3; obtain rfl := Option.some.inj H; go_enter Try.func48, Try.ntmps48
  go_wp2
  go_ret
  exact ⟨zF, zD⟩
 ·rw [if_neg c3] at H; have c3b0 : decide ((wrap64 (a1 - (l0.length : Int))) < 0) = false := decide_eq_false c3; clear c3; obtain rfl := Option.some.inj H; go_enter Try.func48, Try.ntmps48
  go_wp2
  go_ret
  exact ⟨zF, zD⟩

/-! ### laws_szState: function 13 -/
def laws_szState.f (k : Nat) (l0_0 : List (S94)) (l0_1 : List (S98)) (a1 : Int) : Option (Int) := (laws_szItemS.f k l0_0 a1).bind fun t107 => (if t107 < 0 then (some (-1)) else ((laws_szFloorS.f l0_1 t107).bind fun t108 => (if t108 < 0 then (some (-1)) else (some t108))))
theorem laws_szState.mono : ∀ a0 a1 a2 k, LeO (laws_szState.f k a0 a1 a2) (laws_szState.f (k + 1) a0 a1 a2) := by
 intro a0 a1 a2 k
 unfold laws_szState.f
 repeat' first | (with_reducible first | exact LeO.refl _ | exact LeO.none _ | refine LeO.ite ?_ ?_ | refine LeO.bind ?_ (fun _ => ?_) | apply laws_szItemS.mono) | apply laws_szItemS.mono | exact LeO.none _ | refine LeO.ite ?_ ?_ | refine LeO.bind ?_ (fun _ => ?_)
set_option maxHeartbeats 8000000 in
set_option maxRecDepth 100000 in
theorem laws_szState.calls (k : Nat) (A0_0 : Option Addr) (c0_0 : Nat) (l0_0 : List (S94)) (A0_1 : Option Addr) (c0_1 : Nat) (l0_1 : List (S98)) (a1 : Int) (r : Int) (w : World) (hr0_0 : Kd.C k94 w A0_0 l0_0.length l0_0) (hc0_0 : l0_0.length ≤ c0_0) (hr0_1 : Kd.C k98 w A0_1 l0_1.length l0_1) (hc0_1 : l0_1.length ≤ c0_1) (h : laws_szState.f k l0_0 l0_1 a1 = some r) :
  Calls Try.prog 13 #[.agg #[.slice A0_0 l0_0.length c0_0, .slice A0_1 l0_1.length c0_1], .int .i64 a1] w fun e w' => e = .returned (.int .i64 r) ∧ Below w.heap.size w w' := by
 have hu25 := Try.underlying25; have HR0_0 := zm hr0_0; have HC0_0 := zm hc0_0; clear hr0_0 hc0_0; have HR0_1 := zm hr0_1; have HC0_1 := zm hc0_1; clear hr0_1 hc0_1; have HB := zm (Below.refl w.heap.size w); have H : ((laws_szItemS.f k l0_0 a1).bind fun t107 => (if t107 < 0 then (some (-1)) else ((laws_szFloorS.f l0_1 t107).bind fun t108 => (if t108 < 0 then (some (-1)) else (some t108))))) = some r := h; clear h; replace H := Option.bind_eq_some_iff.mp H; obtain ⟨t107, A30, H⟩ := H; (try dsimp only at H); have A3 := zm A30; clear A30
 by_cases c4 : t107 < 0
 ·rw [if_pos c4] at H; have c4b0 : decide (t107 < 0) = true := decide_eq_true c4; clear c4; obtain rfl := Option.some.inj H; go_enter Try.func13, Try.ntmps13
  go_wp2_with (first | (refine zbox 2 #[.slice A0_0 l0_0.length c0_0, .slice A0_1 l0_1.length c0_1] 25 ?_; intro gb106 hg w5 hbox hb; have BK106 := zm (hbox); have GW106 := zge w hg zB; have GE106 := zge w hg zB; replace HB := zm (below_step zB hb); clear hb hbox hg; obtain ⟨hcz6_0, hcz6_1, hfz6_0, hfz6_1⟩ := zc2 BK106) | (refine zg (some 8) #[.slice A0_0 l0_0.length c0_0, .int .i64 a1] Try.func47 ?_; (with_reducible refine (laws_szItemS.calls k _ _ l0_0 a1 t107 _ (zk (Kd.C_below HR0_0.out HB.out)) HC0_0.out A3.out).mono ?_); rintro e w7 ⟨rfl, hb⟩; refine ⟨_, rfl, ?_⟩; replace BK106 := zy BK106 hb; replace HB := zm (below_step zB hb); clear hb))
  go_ret
  exact ⟨zE, zB⟩
 ·rw [if_neg c4] at H; have c4b0 : decide (t107 < 0) = false := decide_eq_false c4; clear c4; replace H := Option.bind_eq_some_iff.mp H; obtain ⟨t108, A80, H⟩ := H; (try dsimp only at H); have A8 := zm A80; clear A80
  by_cases c9 : t108 < 0
  ·rw [if_pos c9] at H; have c9b0 : decide (t108 < 0) = true := decide_eq_true c9; clear c9; obtain rfl := Option.some.inj H; go_enter Try.func13, Try.ntmps13
   go_wp2_with (first | (refine zbox 2 #[.slice A0_0 l0_0.length c0_0, .slice A0_1 l0_1.length c0_1] 25 ?_; intro gb106 hg w10 hbox hb; have BK106 := zm (hbox); have GW106 := zge w hg zB; have GE106 := zge w hg zB; replace HB := zm (below_step zB hb); clear hb hbox hg; obtain ⟨hcz11_0, hcz11_1, hfz11_0, hfz11_1⟩ := zc2 BK106) | (refine zg (some 8) #[.slice A0_0 l0_0.length c0_0, .int .i64 a1] Try.func47 ?_; (with_reducible refine (laws_szItemS.calls k _ _ l0_0 a1 t107 _ (zk (Kd.C_below HR0_0.out HB.out)) HC0_0.out A3.out).mono ?_); rintro e w12 ⟨rfl, hb⟩; refine ⟨_, rfl, ?_⟩; replace BK106 := zy BK106 hb; replace HB := zm (below_step zB hb); clear hb; obtain ⟨hcz13_0, hcz13_1, hfz13_0, hfz13_1⟩ := zc2 BK106) | (refine zg (some 14) #[.slice A0_1 l0_1.length c0_1, .int .i64 t107] Try.func48 ?_; (with_reducible refine (laws_szFloorS.calls _ _ l0_1 t107 t108 _ (zk (Kd.C_below HR0_1.out HB.out)) HC0_1.out A8.out).mono ?_); rintro e w' ⟨rfl, ⟨nd, rfl⟩⟩; refine ⟨_, rfl, ?_⟩))
   go_ret
   exact ⟨zE, zB⟩
  ·rw [if_neg c9] at H; have c9b0 : decide (t108 < 0) = false := decide_eq_false c9; clear c9; obtain rfl := Option.some.inj H; go_enter Try.func13, Try.ntmps13
   go_wp2_with (first | (refine zbox 2 #[.slice A0_0 l0_0.length c0_0, .slice A0_1 l0_1.length c0_1] 25 ?_; intro gb106 hg w14 hbox hb; have BK106 := zm (hbox); have GW106 := zge w hg zB; have GE106 := zge w hg zB; replace HB := zm (below_step zB hb); clear hb hbox hg; obtain ⟨hcz15_0, hcz15_1, hfz15_0, hfz15_1⟩ := zc2 BK106) | (refine zg (some 8) #[.slice A0_0 l0_0.length c0_0, .int .i64 a1] Try.func47 ?_; (with_reducible refine (laws_szItemS.calls k _ _ l0_0 a1 t107 _ (zk (Kd.C_below HR0_0.out HB.out)) HC0_0.out A3.out).mono ?_); rintro e w16 ⟨rfl, hb⟩; refine ⟨_, rfl, ?_⟩; replace BK106 := zy BK106 hb; replace HB := zm (below_step zB hb); clear hb; obtain ⟨hcz17_0, hcz17_1, hfz17_0, hfz17_1⟩ := zc2 BK106) | (refine zg (some 14) #[.slice A0_1 l0_1.length c0_1, .int .i64 t107] Try.func48 ?_; (with_reducible refine (laws_szFloorS.calls _ _ l0_1 t107 t108 _ (zk (Kd.C_below HR0_1.out HB.out)) HC0_1.out A8.out).mono ?_); rintro e w' ⟨rfl, ⟨nd, rfl⟩⟩; refine ⟨_, rfl, ?_⟩))
   go_ret
   exact ⟨zE, zB⟩

/-! ### spec_l1In: function 61 -/
def spec_l1In.f (a0 : Int) (a1 : Int) (a2 : Int) : Option (Bool) := if a0 ≥ a1 then (some (decide (a0 ≤ a2))) else (some false)
set_option maxHeartbeats 8000000 in
set_option maxRecDepth 100000 in
theorem spec_l1In.calls (a0 : Int) (a1 : Int) (a2 : Int) (r : Bool) (w : World) (h : spec_l1In.f a0 a1 a2 = some r) :
  Calls Try.prog 61 #[.int .i64 a0, .int .i64 a1, .int .i64 a2] w fun e w' => e = .returned (.bool r) ∧ Drawn0 w w' := by
 have H : (if a0 ≥ a1 then (some (decide (a0 ≤ a2))) else (some false)) = some r := h; clear h
 by_cases c4 : a0 ≥ a1
 ·rw [if_pos c4] at H; have c4b0 : decide (a1 ≤ a0) = true := decide_eq_true c4; clear c4; obtain rfl := Option.some.inj H; go_enter Try.func61, Try.ntmps61
  go_wp2
  go_ret
  exact ⟨zF, zD⟩
 ·rw [if_neg c4] at H; have c4b0 : decide (a1 ≤ a0) = false := decide_eq_false c4; clear c4; obtain rfl := Option.some.inj H; go_enter Try.func61, Try.ntmps61
  go_wp2
  go_ret
  exact ⟨zF, zD⟩

/-! ### spec_l3Node: function 72 -/
def spec_l3Node.f (a0 : Int) : Option (Bool) := (spec_l1In.f a0 0 4).bind fun t109 => (some t109)
set_option maxHeartbeats 8000000 in
set_option maxRecDepth 100000 in
theorem spec_l3Node.calls (a0 : Int) (r : Bool) (w : World) (h : spec_l3Node.f a0 = some r) :
  Calls Try.prog 72 #[.int .i64 a0] w fun e w' => e = .returned (.bool r) ∧ Drawn0 w w' := by
 have H : ((spec_l1In.f a0 0 4).bind fun t109 => (some t109)) = some r := h; clear h; replace H := Option.bind_eq_some_iff.mp H; obtain ⟨t109, A20, H⟩ := H; (try dsimp only at H); have A2 := zm A20; clear A20; obtain rfl := Option.some.inj H; go_enter Try.func72, Try.ntmps72
 go_wp2_with (first | (refine zg (some 4) #[.int .i64 a0, .int .i64 0, .int .i64 4] Try.func61 ?_; (with_reducible refine (spec_l1In.calls a0 0 4 t109 _ A2.out).mono ?_); rintro e w' ⟨rfl, ⟨nd, rfl⟩⟩; refine ⟨_, rfl, ?_⟩))
 go_ret
 exact ⟨zF, zD⟩

/-! ### spec_FloorOf: function 76 -/
def spec_FloorOf.l0 : Nat → Int → Int → List (S68) → List (S72) → Option (Int)
 | 0, _, _, _, _ => none
 | k + 1, x1, x5, x111000, x111001 => if x5 < (x111001.length : Int) then (if 0 ≤ x5 then (if ((rd_T72 x111001 x5).f0) = x1 then (some ((rd_T72 x111001 x5).f1)) else (spec_FloorOf.l0 k x1 (wrap64 (x5 + 1)) x111000 x111001)) else (none)) else (some 0)
def spec_FloorOf.f (k : Nat) (l0_0 : List (S68)) (l0_1 : List (S72)) (a1 : Int) : Option (Int) := spec_FloorOf.l0 k a1 0 l0_0 l0_1
theorem spec_FloorOf.mono_l : ∀ k, (∀ y0 y1 y2 y3, LeO (spec_FloorOf.l0 k y0 y1 y2 y3) (spec_FloorOf.l0 (k + 1) y0 y1 y2 y3))
 | 0 => fun _ _ _ _ r h => by simp [spec_FloorOf.l0] at h
 | k + 1 => by
  have ih0 := spec_FloorOf.mono_l k
  ·intro y0 y1 y2 y3
   unfold spec_FloorOf.l0
   repeat' first | (with_reducible first | exact LeO.refl _ | exact LeO.none _ | refine LeO.ite ?_ ?_ | refine LeO.bind ?_ (fun _ => ?_) | apply ih0) | apply ih0 | exact LeO.none _ | refine LeO.ite ?_ ?_ | refine LeO.bind ?_ (fun _ => ?_)
theorem spec_FloorOf.mono : ∀ a0 a1 a2 k, LeO (spec_FloorOf.f k a0 a1 a2) (spec_FloorOf.f (k + 1) a0 a1 a2) := by
 intro a0 a1 a2 k; have ih0 := spec_FloorOf.mono_l k
 unfold spec_FloorOf.f
 repeat' first | (with_reducible first | exact LeO.refl _ | exact LeO.none _ | refine LeO.ite ?_ ?_ | refine LeO.bind ?_ (fun _ => ?_) | apply ih0) | apply ih0 | exact LeO.none _ | refine LeO.ite ?_ ?_ | refine LeO.bind ?_ (fun _ => ?_)
set_option maxHeartbeats 8000000 in
set_option maxRecDepth 100000 in
theorem spec_FloorOf.calls (k : Nat) (A0_0 : Option Addr) (c0_0 : Nat) (l0_0 : List (S68)) (A0_1 : Option Addr) (c0_1 : Nat) (l0_1 : List (S72)) (a1 : Int) (r : Int) (w : World) (hr0_0 : Kd.C k68 w A0_0 l0_0.length l0_0) (hc0_0 : l0_0.length ≤ c0_0) (hr0_1 : Kd.C k72 w A0_1 l0_1.length l0_1) (hc0_1 : l0_1.length ≤ c0_1) (h : spec_FloorOf.f k l0_0 l0_1 a1 = some r) :
  Calls Try.prog 76 #[.agg #[.slice A0_0 l0_0.length c0_0, .slice A0_1 l0_1.length c0_1], .int .i64 a1] w fun e w' => e = .returned (.int .i64 r) ∧ Below w.heap.size w w' := by
 have hu32 := Try.underlying32; have HR0_0 := zm hr0_0; have HC0_0 := zm hc0_0; clear hr0_0 hc0_0; have HR0_1 := zm hr0_1; have HC0_1 := zm hc0_1; clear hr0_1 hc0_1; have HB := zm (Below.refl w.heap.size w); have H : (spec_FloorOf.l0 k a1 0 l0_0 l0_1) = some r := h; clear h
 have H' := zm H
 clear H; go_enter Try.func76, Try.ntmps76
 go_wp2_with (first | (refine zbox 2 #[.slice A0_0 l0_0.length c0_0, .slice A0_1 l0_1.length c0_1] 32 ?_; intro gb110 hg w3 hbox hb; have BK110 := zm (hbox); have GW110 := zge w hg zB; have GE110 := zge w hg zB; replace HB := zm (below_step zB hb); clear hb hbox hg))
 go_loopg [5] k (fun kq v5 w' => ∃ (x5_1 : Int), v5 = .int .i64 x5_1 ∧ Aside0 (spec_FloorOf.l0 kq a1 x5_1 l0_0 l0_1 = some r) ∧ Aside0 (kq ≤ k) ∧ Aside0 (w'.heap[gb110]? = some (.cells #[(.slice A0_0 l0_0.length c0_0), (.slice A0_1 l0_1.length c0_1)] 32 (0, 0))) ∧ Aside0 (Below w.heap.size w w'))
 case atStart => exact ⟨(0), zF, H', ⟨Nat.le_refl _⟩, ⟨zb BK110⟩, ⟨zB⟩⟩
 case round =>
  clear H'; obtain ⟨x5_1, rfl, HA, HK1, BK110, HB⟩ := hrel
  cases gk with
  | zero => exact absurd HA.out (by simp [spec_FloorOf.l0])
  | succ k1 =>
   have H := HA.out; clear HA; simp only [spec_FloorOf.l0] at H
   by_cases c4 : x5_1 < (l0_1.length : Int)
   ·rw [if_pos c4] at H; have c4b0 : decide (x5_1 < (l0_1.length : Int)) = true := decide_eq_true c4; clear c4
    by_cases c5 : 0 ≤ x5_1
    ·rw [if_pos c5] at H; have c5b0 : decide (0 ≤ x5_1) = true := decide_eq_true c5; clear c5
     by_cases c6 : ((rd_T72 l0_1 x5_1).f0) = a1
     ·rw [if_pos c6] at H; have c6b0 : (((rd_T72 l0_1 x5_1).f0) == a1) = true := beq_iff_eq.mpr c6; have c6b1 : (((rd_T72 l0_1 x5_1).f0) != a1) = false := bne_eq_false_iff_eq.mpr c6; clear c6; obtain rfl := Option.some.inj H; obtain ⟨hcz7_0, hcz7_1, hfz7_0, hfz7_1⟩ := zc2 BK110; have p111 : 0 ≤ (x5_1 : Int) := zd; have q111 : x5_1 < (l0_1.length : Int) := zd; obtain ⟨ad111, e111, hx111_0, hx111_1⟩ := at_T72 (Kd.C_below HR0_1.out HB.out) x5_1 p111 q111; cases e111; replace p111 := eq_true p111; replace q111 := eq_true q111; have p112 : 0 ≤ (x5_1 : Int) := zd; have q112 : x5_1 < (l0_1.length : Int) := zd; obtain ⟨ad112, e112, hx112_0, hx112_1⟩ := at_T72 (Kd.C_below HR0_1.out HB.out) x5_1 p112 q112
      obtain rfl : ad111 = ad112 := (by injection e112)
      replace p112 := eq_true p112; replace q112 := eq_true q112
      go_wp2
      go_ret
      exact ⟨zE, zB⟩
     ·rw [if_neg c6] at H; have c6b0 : (((rd_T72 l0_1 x5_1).f0) == a1) = false := beq_eq_false_iff_ne.mpr c6; have c6b1 : (((rd_T72 l0_1 x5_1).f0) != a1) = true := bne_iff_ne.mpr c6
      have H' := zm H
      clear H; obtain ⟨hcz8_0, hcz8_1, hfz8_0, hfz8_1⟩ := zc2 BK110; have p111 : 0 ≤ (x5_1 : Int) := zd; have q111 : x5_1 < (l0_1.length : Int) := zd; obtain ⟨ad111, e111, hx111_0, hx111_1⟩ := at_T72 (Kd.C_below HR0_1.out HB.out) x5_1 p111 q111; cases e111; replace p111 := eq_true p111; replace q111 := eq_true q111
      go_wp2
      go_roundg k1
      case measure => have := HK1.out; omega
      case rel => exact ⟨(wrap64 (x5_1 + 1)), zF, H', ⟨by have := HK1.out; omega⟩, ⟨zb BK110⟩, ⟨zB⟩⟩
    ·rw [if_neg c5] at H
     exact absurd H (by simp)
   ·rw [if_neg c4] at H; have c4b0 : decide (x5_1 < (l0_1.length : Int)) = false := decide_eq_false c4; clear c4; obtain rfl := Option.some.inj H; obtain ⟨hcz9_0, hcz9_1, hfz9_0, hfz9_1⟩ := zc2 BK110
    go_wp2
    go_ret
    exact ⟨zE, zB⟩

/-! ### spec_EntryOk: function 89 -/
def spec_EntryOk.f (a0_0 : Int) (a0_1 : Int) (a0_2 : Int) (a0_3 : Int) (a0_4 : ByteArray) : Option (Bool) := (spec_l1In.f a0_0 1 1000).bind fun t114 => (if t114 = true then ((spec_l1In.f a0_1 0 1).bind fun t115 => (if t115 = true then ((spec_l1In.f a0_2 0 100000).bind fun t116 => (if t116 = true then ((spec_l1In.f a0_3 0 1000).bind fun t117 => (if t117 = true then (some (decide ((a0_4.size : Int) ≤ 8))) else (some false))) else (some false))) else (some false))) else (some false))
set_option maxHeartbeats 8000000 in
set_option maxRecDepth 100000 in
theorem spec_EntryOk.calls (a0_0 : Int) (a0_1 : Int) (a0_2 : Int) (a0_3 : Int) (a0_4 : ByteArray) (r : Bool) (w : World) (h : spec_EntryOk.f a0_0 a0_1 a0_2 a0_3 a0_4 = some r) :
  Calls Try.prog 89 #[.agg #[.int .i64 a0_0, .int .i64 a0_1, .int .i64 a0_2, .int .i64 a0_3, .string a0_4]] w fun e w' => e = .returned (.bool r) ∧ Below w.heap.size w w' := by
 have hu66 := Try.underlying66; have HB := zm (Below.refl w.heap.size w); have H : ((spec_l1In.f a0_0 1 1000).bind fun t114 => (if t114 = true then ((spec_l1In.f a0_1 0 1).bind fun t115 => (if t115 = true then ((spec_l1In.f a0_2 0 100000).bind fun t116 => (if t116 = true then ((spec_l1In.f a0_3 0 1000).bind fun t117 => (if t117 = true then (some (decide ((a0_4.size : Int) ≤ 8))) else (some false))) else (some false))) else (some false))) else (some false))) = some r := h; clear h; replace H := Option.bind_eq_some_iff.mp H; obtain ⟨t114, A20, H⟩ := H; (try dsimp only at H); have A2 := zm A20; clear A20
 by_cases c3 : t114 = true
 ·subst c3; rw [if_pos rfl] at H; replace H := Option.bind_eq_some_iff.mp H; obtain ⟨t115, A40, H⟩ := H; (try dsimp only at H); have A4 := zm A40; clear A40
  by_cases c5 : t115 = true
  ·subst c5; rw [if_pos rfl] at H; replace H := Option.bind_eq_some_iff.mp H; obtain ⟨t116, A60, H⟩ := H; (try dsimp only at H); have A6 := zm A60; clear A60
   by_cases c7 : t116 = true
   ·subst c7; rw [if_pos rfl] at H; replace H := Option.bind_eq_some_iff.mp H; obtain ⟨t117, A80, H⟩ := H; (try dsimp only at H); have A8 := zm A80; clear A80
    by_cases c9 : t117 = true
    ·subst c9; rw [if_pos rfl] at H; obtain rfl := Option.some.inj H; go_enter Try.func89, Try.ntmps89
     go_wp2_with (first | ((with_reducible refine gate_dst (N := 1) rfl ?_); (try (refine gate_guard (by rfl) ?_; dsimp only)); refine zbox 1 #[.int .i64 a0_0, .int .i64 a0_1, .int .i64 a0_2, .int .i64 a0_3, .string a0_4] 66 ?_; intro gb113 hg w10 hbox hb; have BK113 := zm (hbox); have GW113 := zge w hg zB; have GE113 := zge w hg zB; replace HB := zm (below_step zB hb); clear hb hbox hg; obtain ⟨hcz11_0, hcz11_1, hcz11_2, hcz11_3, hcz11_4, hfz11_0, hfz11_1, hfz11_2, hfz11_3, hfz11_4⟩ := zc5 BK113) | (refine zg (some 5) #[.int .i64 a0_0, .int .i64 1, .int .i64 1000] Try.func61 ?_; (with_reducible refine (spec_l1In.calls a0_0 1 1000 true _ A2.out).mono ?_); rintro e w' ⟨rfl, ⟨nd, rfl⟩⟩; refine ⟨_, rfl, ?_⟩) | (go_at_call 61; (with_reducible refine (spec_l1In.calls a0_1 0 1 true _ A4.out).mono ?_); rintro e w' ⟨rfl, ⟨nd, rfl⟩⟩) | (go_at_call 61; (with_reducible refine (spec_l1In.calls a0_2 0 100000 true _ A6.out).mono ?_); rintro e w' ⟨rfl, ⟨nd, rfl⟩⟩) | (go_at_call 61; (with_reducible refine (spec_l1In.calls a0_3 0 1000 true _ A8.out).mono ?_); rintro e w' ⟨rfl, ⟨nd, rfl⟩⟩))
     go_ret
     exact ⟨zE, zB⟩
    ·replace c9 := Bool.eq_false_iff.mpr c9; subst c9; rw [zff] at H; obtain rfl := Option.some.inj H; go_enter Try.func89, Try.ntmps89
     go_wp2_with (first | ((with_reducible refine gate_dst (N := 1) rfl ?_); (try (refine gate_guard (by rfl) ?_; dsimp only)); refine zbox 1 #[.int .i64 a0_0, .int .i64 a0_1, .int .i64 a0_2, .int .i64 a0_3, .string a0_4] 66 ?_; intro gb113 hg w12 hbox hb; have BK113 := zm (hbox); have GW113 := zge w hg zB; have GE113 := zge w hg zB; replace HB := zm (below_step zB hb); clear hb hbox hg; obtain ⟨hcz13_0, hcz13_1, hcz13_2, hcz13_3, hcz13_4, hfz13_0, hfz13_1, hfz13_2, hfz13_3, hfz13_4⟩ := zc5 BK113) | (refine zg (some 5) #[.int .i64 a0_0, .int .i64 1, .int .i64 1000] Try.func61 ?_; (with_reducible refine (spec_l1In.calls a0_0 1 1000 true _ A2.out).mono ?_); rintro e w' ⟨rfl, ⟨nd, rfl⟩⟩; refine ⟨_, rfl, ?_⟩) | (go_at_call 61; (with_reducible refine (spec_l1In.calls a0_1 0 1 true _ A4.out).mono ?_); rintro e w' ⟨rfl, ⟨nd, rfl⟩⟩) | (go_at_call 61; (with_reducible refine (spec_l1In.calls a0_2 0 100000 true _ A6.out).mono ?_); rintro e w' ⟨rfl, ⟨nd, rfl⟩⟩) | (go_at_call 61; (with_reducible refine (spec_l1In.calls a0_3 0 1000 false _ A8.out).mono ?_); rintro e w' ⟨rfl, ⟨nd, rfl⟩⟩))
     go_ret
     exact ⟨zE, zB⟩
   ·replace c7 := Bool.eq_false_iff.mpr c7; subst c7; rw [zff] at H; obtain rfl := Option.some.inj H; go_enter Try.func89, Try.ntmps89
    go_wp2_with (first | ((with_reducible refine gate_dst (N := 1) rfl ?_); (try (refine gate_guard (by rfl) ?_; dsimp only)); refine zbox 1 #[.int .i64 a0_0, .int .i64 a0_1, .int .i64 a0_2, .int .i64 a0_3, .string a0_4] 66 ?_; intro gb113 hg w14 hbox hb; have BK113 := zm (hbox); have GW113 := zge w hg zB; have GE113 := zge w hg zB; replace HB := zm (below_step zB hb); clear hb hbox hg; obtain ⟨hcz15_0, hcz15_1, hcz15_2, hcz15_3, hcz15_4, hfz15_0, hfz15_1, hfz15_2, hfz15_3, hfz15_4⟩ := zc5 BK113) | (refine zg (some 5) #[.int .i64 a0_0, .int .i64 1, .int .i64 1000] Try.func61 ?_; (with_reducible refine (spec_l1In.calls a0_0 1 1000 true _ A2.out).mono ?_); rintro e w' ⟨rfl, ⟨nd, rfl⟩⟩; refine ⟨_, rfl, ?_⟩) | (go_at_call 61; (with_reducible refine (spec_l1In.calls a0_1 0 1 true _ A4.out).mono ?_); rintro e w' ⟨rfl, ⟨nd, rfl⟩⟩) | (go_at_call 61; (with_reducible refine (spec_l1In.calls a0_2 0 100000 false _ A6.out).mono ?_); rintro e w' ⟨rfl, ⟨nd, rfl⟩⟩))
    go_ret
    exact ⟨zE, zB⟩
  ·replace c5 := Bool.eq_false_iff.mpr c5; subst c5; rw [zff] at H; obtain rfl := Option.some.inj H; go_enter Try.func89, Try.ntmps89
   go_wp2_with (first | ((with_reducible refine gate_dst (N := 1) rfl ?_); (try (refine gate_guard (by rfl) ?_; dsimp only)); refine zbox 1 #[.int .i64 a0_0, .int .i64 a0_1, .int .i64 a0_2, .int .i64 a0_3, .string a0_4] 66 ?_; intro gb113 hg w16 hbox hb; have BK113 := zm (hbox); have GW113 := zge w hg zB; have GE113 := zge w hg zB; replace HB := zm (below_step zB hb); clear hb hbox hg; obtain ⟨hcz17_0, hcz17_1, hcz17_2, hcz17_3, hcz17_4, hfz17_0, hfz17_1, hfz17_2, hfz17_3, hfz17_4⟩ := zc5 BK113) | (refine zg (some 5) #[.int .i64 a0_0, .int .i64 1, .int .i64 1000] Try.func61 ?_; (with_reducible refine (spec_l1In.calls a0_0 1 1000 true _ A2.out).mono ?_); rintro e w' ⟨rfl, ⟨nd, rfl⟩⟩; refine ⟨_, rfl, ?_⟩) | (go_at_call 61; (with_reducible refine (spec_l1In.calls a0_1 0 1 false _ A4.out).mono ?_); rintro e w' ⟨rfl, ⟨nd, rfl⟩⟩))
   go_ret
   exact ⟨zE, zB⟩
 ·replace c3 := Bool.eq_false_iff.mpr c3; subst c3; rw [zff] at H; obtain rfl := Option.some.inj H; go_enter Try.func89, Try.ntmps89
  go_wp2_with (first | ((with_reducible refine gate_dst (N := 1) rfl ?_); (try (refine gate_guard (by rfl) ?_; dsimp only)); refine zbox 1 #[.int .i64 a0_0, .int .i64 a0_1, .int .i64 a0_2, .int .i64 a0_3, .string a0_4] 66 ?_; intro gb113 hg w18 hbox hb; have BK113 := zm (hbox); have GW113 := zge w hg zB; have GE113 := zge w hg zB; replace HB := zm (below_step zB hb); clear hb hbox hg; obtain ⟨hcz19_0, hcz19_1, hcz19_2, hcz19_3, hcz19_4, hfz19_0, hfz19_1, hfz19_2, hfz19_3, hfz19_4⟩ := zc5 BK113) | (refine zg (some 5) #[.int .i64 a0_0, .int .i64 1, .int .i64 1000] Try.func61 ?_; (with_reducible refine (spec_l1In.calls a0_0 1 1000 false _ A2.out).mono ?_); rintro e w' ⟨rfl, ⟨nd, rfl⟩⟩; refine ⟨_, rfl, ?_⟩))
  go_ret
  exact ⟨zE, zB⟩

end Go.Proofs.Ytgapdegniepjiaa.P
