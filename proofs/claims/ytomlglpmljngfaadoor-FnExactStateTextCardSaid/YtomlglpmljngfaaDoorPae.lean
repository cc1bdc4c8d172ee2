-- by a program of this session, for this seat
import Derived.Test.YtomlglpmljngfaaDoorZ
import Derived.Test.YtomlglpmljngfaaDoorP0
import Derived.Test.YtomlglpmljngfaaDoorPac
namespace Go.Proofs.YtomlglpmljngfaaDoor.P
open Go.RowKit Go.Proofs.YtomlglpmljngfaaDoorW.PrintWords Go.Proofs.YtomlglpmljngfaaDoorW.PrintLast Go.Proofs.YtomlglpmljngfaaDoorW.PrintMore Go.Proofs.YtomlglpmljngfaaDoor.Z
attribute [local go_sem] max2_int min2_int max_two min_two max_three min_three max_four min_four   -- for this text's walks alone
set_option linter.unusedVariables false
set_option linter.unusedSimpArgs false

/-! ### laws_szItem: function 59 -/
def laws_szItem.f (a0_0 : Int) (a0_1 : Int) (a0_2 : Int) (a0_3 : Int) (a0_4 : Int) (a0_5 : ByteArray) (a1 : Int) : Option (Int) := (laws_szEntry.f a0_1 a0_2 a0_3 a0_4 a0_5 a1).bind fun t185 => (if t185 < 0 then (some (-1)) else (some t185))
set_option maxHeartbeats 8000000 in
set_option maxRecDepth 100000 in
theorem laws_szItem.calls (a0_0 : Int) (a0_1 : Int) (a0_2 : Int) (a0_3 : Int) (a0_4 : Int) (a0_5 : ByteArray) (a1 : Int) (r : Int) (w : World) (h : laws_szItem.f a0_0 a0_1 a0_2 a0_3 a0_4 a0_5 a1 = some r) :
  Calls Tryd.prog 59 #[.agg #[.int .i64 a0_0, .int .i64 a0_1, .int .i64 a0_2, .int .i64 a0_3, .int .i64 a0_4, .string a0_5], .int .i64 a1] w fun e w' => e = .returned (.int .i64 r) ∧ Below w.heap.size w w' := by
 have hu84 := Tryd.underlying84; have hu25 := Tryd.underlying25; have HB := zm (Below.refl w.heap.size w); have H : ((laws_szEntry.f a0_1 a0_2 a0_3 a0_4 a0_5 a1).bind fun AB => (if AB < 0 then (some (-1)) else (some AB))) = some r := h; clear h; replace H := Option.bind_eq_some_iff.mp H; obtain ⟨AB, AF, H⟩ := H; (try dsimp only at H); have A3 := zm AF; clear AF
 by_cases c4 : AB < 0
 ·rw [if_pos c4] at H; have AG : decide (AB < 0) = true := decide_eq_true c4; clear c4; obtain rfl := Option.some.inj H; go_enter Tryd.func59, Tryd.ntmps59
  go_wp2_with (first | ((with_reducible refine gate_dst (N := 2) rfl ?_); refine zbox 2 #[.int .i64 a0_0, .int .i64 a0_1, .int .i64 a0_2, .int .i64 a0_3, .int .i64 a0_4, .string a0_5] 84 ?_; intro AE hg w5 hbox hb; have AA := zm (hbox); have AD := zge w hg zB; have AC := zge w hg zB; replace HB := zm (below_step zB hb); clear hb hbox hg; obtain ⟨AH, AI, AJ, AK, AL, AM, AT, AU, AV, AW, AX, AY⟩ := zc6 AA) | ((with_reducible refine gate_callee (f := 12) rfl ?_); refine zg (some 8) #[.agg #[.int .i64 a0_1, .int .i64 a0_2, .int .i64 a0_3, .int .i64 a0_4, .string a0_5], .int .i64 a1] Tryd.func12 ?_; (with_reducible refine (laws_szEntry.calls a0_1 a0_2 a0_3 a0_4 a0_5 a1 AB _ A3.out).mono ?_); rintro e w7 ⟨rfl, hb⟩; refine ⟨_, rfl, ?_⟩; replace AA := zy AA hb; replace HB := zm (below_step zB hb); clear hb))
  go_ret
  exact ⟨zE, zB⟩
 ·rw [if_neg c4] at H; have AG : decide (AB < 0) = false := decide_eq_false c4; clear c4; obtain rfl := Option.some.inj H; go_enter Tryd.func59, Tryd.ntmps59
  go_wp2_with (first | ((with_reducible refine gate_dst (N := 2) rfl ?_); refine zbox 2 #[.int .i64 a0_0, .int .i64 a0_1, .int .i64 a0_2, .int .i64 a0_3, .int .i64 a0_4, .string a0_5] 84 ?_; intro AE hg w8 hbox hb; have AA := zm (hbox); have AD := zge w hg zB; have AC := zge w hg zB; replace HB := zm (below_step zB hb); clear hb hbox hg; obtain ⟨AN, AO, AP, AQ, AR, AS, AZ, Aa, Ab, Ac, Ad, Ae⟩ := zc6 AA) | ((with_reducible refine gate_callee (f := 12) rfl ?_); refine zg (some 8) #[.agg #[.int .i64 a0_1, .int .i64 a0_2, .int .i64 a0_3, .int .i64 a0_4, .string a0_5], .int .i64 a1] Tryd.func12 ?_; (with_reducible refine (laws_szEntry.calls a0_1 a0_2 a0_3 a0_4 a0_5 a1 AB _ A3.out).mono ?_); rintro e Af ⟨rfl, hb⟩; refine ⟨_, rfl, ?_⟩; replace AA := zy AA hb; replace HB := zm (below_step zB hb); clear hb))
  go_ret
  exact ⟨zE, zB⟩

/-! ### laws_szItemS: function 40 -/
def laws_szItemS.l0 : Nat → List (S84) → Int → Int → Option (Int)
 | 0, _, _, _ => none
 | k + 1, x0, x1, x5 => if x5 < (x0.length : Int) then (if 0 ≤ x5 then ((laws_szItem.f ((rd_T84 x0 x5).f0) ((rd_T84 x0 x5).f1.f0) ((rd_T84 x0 x5).f1.f1) ((rd_T84 x0 x5).f1.f2) ((rd_T84 x0 x5).f1.f3) ((rd_T84 x0 x5).f1.f4) x1).bind fun t187 => (if t187 < 0 then (some (-1)) else (laws_szItemS.l0 k x0 t187 (wrap64 (x5 + 1))))) else (none)) else (some x1)
def laws_szItemS.f (k : Nat) (l0 : List (S84)) (a1 : Int) : Option (Int) := if (wrap64 (a1 - (l0.length : Int))) < 0 then (some (-1)) else (laws_szItemS.l0 k l0 (wrap64 (a1 - (l0.length : Int))) 0)
theorem laws_szItemS.mono_l : ∀ k, (∀ y0 y1 y2, LeO (laws_szItemS.l0 k y0 y1 y2) (laws_szItemS.l0 (k + 1) y0 y1 y2))
 | 0 => fun _ _ _ r h => by simp [laws_szItemS.l0] at h
 | k + 1 => by
  have ih0 := laws_szItemS.mono_l k
  ·intro y0 y1 y2
   unfold laws_szItemS.l0
   repeat' first | (with_reducible first | exact LeO.refl _ | exact LeO.none _ | refine LeO.ite ?_ ?_ | refine LeO.bind ?_ (fun _ => ?_) | apply ih0) | apply ih0 | exact LeO.none _ | refine LeO.ite ?_ ?_ | refine LeO.bind ?_ (fun _ => ?_)
theorem laws_szItemS.mono : ∀ a0 a1 k, LeO (laws_szItemS.f k a0 a1) (laws_szItemS.f (k + 1) a0 a1) := by
 intro a0 a1 k; have ih0 := laws_szItemS.mono_l k
 unfold laws_szItemS.f
 repeat' first | (with_reducible first | exact LeO.refl _ | exact LeO.none _ | refine LeO.ite ?_ ?_ | refine LeO.bind ?_ (fun _ => ?_) | apply ih0) | apply ih0 | exact LeO.none _ | refine LeO.ite ?_ ?_ | refine LeO.bind ?_ (fun _ => ?_)
set_option maxHeartbeats 8000000 in
set_option maxRecDepth 100000 in
theorem laws_szItemS.calls (k : Nat) (A0 : Option Addr) (c0 : Nat) (l0 : List (S84)) (a1 : Int) (r : Int) (w : World) (hr0 : Kd.C k84 w A0 l0.length l0) (hc0 : l0.length ≤ c0) (h : laws_szItemS.f k l0 a1 = some r) :
  Calls Tryd.prog 40 #[.slice A0 l0.length c0, .int .i64 a1] w fun e w' => e = .returned (.int .i64 r) ∧ Below w.heap.size w w' := by
 have hu84 := Tryd.underlying84; have HR0 := zm hr0; have AJ := zm hc0; clear hr0 hc0; have HB := zm (Below.refl w.heap.size w); have H : (if (wrap64 (a1 - (l0.length : Int))) < 0 then (some (-1)) else (laws_szItemS.l0 k l0 (wrap64 (a1 - (l0.length : Int))) 0)) = some r := h; clear h
 by_cases c3 : (wrap64 (a1 - (l0.length : Int))) < 0
 ·rw [if_pos c3] at H; have AD : decide ((wrap64 (a1 - (l0.length : Int))) < 0) = true := decide_eq_true c3; clear c3; obtain rfl := Option.some.inj H; go_enter Tryd.func40, Tryd.ntmps40
  go_wp2
  go_ret
  exact ⟨zE, zB⟩
 ·rw [if_neg c3] at H; have AD : decide ((wrap64 (a1 - (l0.length : Int))) < 0) = false := decide_eq_false c3; clear c3
  have H' := zm H
  clear H; go_enter Tryd.func40, Tryd.ntmps40
  go_wp2
  go_loopg [1, 5] k (fun kq v1 v5 w' => ∃ (AB : Int) (AA : Int), v1 = .int .i64 AB ∧ v5 = .int .i64 AA ∧ Aside0 (laws_szItemS.l0 kq l0 AB AA = some r) ∧ Aside0 (kq ≤ k) ∧ Aside0 (Below w.heap.size w w'))
  case atStart => exact ⟨(wrap64 (a1 - (l0.length : Int))), (0), zF, zF, H', ⟨Nat.le_refl _⟩, ⟨zB⟩⟩
  case round =>
   clear H'; (try clear c3); (try clear AD); obtain ⟨AB, AA, rfl, rfl, HA, AF, HB⟩ := hrel
   cases gk with
   | zero => exact absurd HA.out (by simp [laws_szItemS.l0])
   | succ k1 =>
    have H := HA.out; clear HA; simp only [laws_szItemS.l0] at H
    by_cases c4 : AA < (l0.length : Int)
    ·rw [if_pos c4] at H; have AG : decide (AA < (l0.length : Int)) = true := decide_eq_true c4; clear c4
     by_cases c5 : 0 ≤ AA
     ·rw [if_pos c5] at H; have AI : decide (0 ≤ AA) = true := decide_eq_true c5; clear c5; replace H := Option.bind_eq_some_iff.mp H; obtain ⟨AC, AE, H⟩ := H; (try dsimp only at H); have A6 := zm AE; clear AE
      by_cases c7 : AC < 0
      ·rw [if_pos c7] at H; have AH : decide (AC < 0) = true := decide_eq_true c7; clear c7; obtain rfl := Option.some.inj H; have p186 : 0 ≤ (AA : Int) := zd; have q186 : AA < (l0.length : Int) := zd; obtain ⟨ad186, e186, hx186_0, hx186_1, hx186_2, hx186_3, hx186_4, hx186_5⟩ := at_T84 (Kd.C_below HR0.out HB.out) AA p186 q186; cases e186; replace p186 := eq_true p186; replace q186 := eq_true q186
       go_wp2_with (first | ((with_reducible refine gate_callee (f := 59) rfl ?_); refine zg (some 23) #[.agg #[.int .i64 ((rd_T84 l0 AA).f0), .int .i64 ((rd_T84 l0 AA).f1.f0), .int .i64 ((rd_T84 l0 AA).f1.f1), .int .i64 ((rd_T84 l0 AA).f1.f2), .int .i64 ((rd_T84 l0 AA).f1.f3), .string ((rd_T84 l0 AA).f1.f4)], .int .i64 AB] Tryd.func59 ?_; (with_reducible refine (laws_szItem.calls ((rd_T84 l0 AA).f0) ((rd_T84 l0 AA).f1.f0) ((rd_T84 l0 AA).f1.f1) ((rd_T84 l0 AA).f1.f2) ((rd_T84 l0 AA).f1.f3) ((rd_T84 l0 AA).f1.f4) AB AC _ A6.out).mono ?_); rintro e w8 ⟨rfl, hb⟩; refine ⟨_, rfl, ?_⟩; replace HB := zm (below_step zB hb); clear hb))
       go_ret
       exact ⟨zE, zB⟩
      ·rw [if_neg c7] at H; have AH : decide (AC < 0) = false := decide_eq_false c7; clear c7
       have H' := zm H
       clear H; have p186 : 0 ≤ (AA : Int) := zd; have q186 : AA < (l0.length : Int) := zd; obtain ⟨ad186, e186, hx186_0, hx186_1, hx186_2, hx186_3, hx186_4, hx186_5⟩ := at_T84 (Kd.C_below HR0.out HB.out) AA p186 q186; cases e186; replace p186 := eq_true p186; replace q186 := eq_true q186
       go_wp2_with (first | ((with_reducible refine gate_callee (f := 59) rfl ?_); refine zg (some 23) #[.agg #[.int .i64 ((rd_T84 l0 AA).f0), .int .i64 ((rd_T84 l0 AA).f1.f0), .int .i64 ((rd_T84 l0 AA).f1.f1), .int .i64 ((rd_T84 l0 AA).f1.f2), .int .i64 ((rd_T84 l0 AA).f1.f3), .string ((rd_T84 l0 AA).f1.f4)], .int .i64 AB] Tryd.func59 ?_; (with_reducible refine (laws_szItem.calls ((rd_T84 l0 AA).f0) ((rd_T84 l0 AA).f1.f0) ((rd_T84 l0 AA).f1.f1) ((rd_T84 l0 AA).f1.f2) ((rd_T84 l0 AA).f1.f3) ((rd_T84 l0 AA).f1.f4) AB AC _ A6.out).mono ?_); rintro e w9 ⟨rfl, hb⟩; refine ⟨_, rfl, ?_⟩; replace HB := zm (below_step zB hb); clear hb))
       go_roundg k1
       case measure => have := AF.out; omega
       case rel => exact ⟨(AC), (wrap64 (AA + 1)), zF, zF, H', ⟨by have := AF.out; omega⟩, ⟨zB⟩⟩
     ·rw [if_neg c5] at H
      exact absurd H (by simp)
    ·rw [if_neg c4] at H; have AG : decide (AA < (l0.length : Int)) = false := decide_eq_false c4; clear c4; obtain rfl := Option.some.inj H
     go_wp2
     go_ret
     exact ⟨zE, zB⟩

/-! ### laws_szFloorS: function 41 -/
def laws_szFloorS.f (l0 : List (S87)) (a1 : Int) : Option (Int) := if (wrap64 (a1 - (l0.length : Int))) < 0 then (some (-1)) else (some (wrap64 (a1 - (l0.length : Int))))
set_option maxHeartbeats 8000000 in
set_option maxRecDepth 100000 in
theorem laws_szFloorS.calls (A0 : Option Addr) (c0 : Nat) (l0 : List (S87)) (a1 : Int) (r : Int) (w : World) (hr0 : Kd.C k87 w A0 l0.length l0) (hc0 : l0.length ≤ c0) (h : laws_szFloorS.f l0 a1 = some r) :
  Calls Tryd.prog 41 #[.slice A0 l0.length c0, .int .i64 a1] w fun e w' => e = .returned (.int .i64 r) ∧ Drawn0 w w' := by
 have HR0 := zm hr0; have AB := zm hc0; clear hr0 hc0; have H : (if (wrap64 (a1 - (l0.length : Int))) < 0 then (some (-1)) else (some (wrap64 (a1 - (l0.length : Int))))) = some r := h; clear h
 by_cases c3 : (wrap64 (a1 - (l0.length : Int))) < 0
 ·rw [if_pos c3] at H; have AA : decide ((wrap64 (a1 - (l0.length : Int))) < 0) = true := decide_eq_true c3; clear c3; obtain rfl := Option.some.inj H; go_enter Tryd.func41, Tryd.ntmps41
  go_wp2
  go_ret
  exact ⟨zF, zD⟩
 ·rw [if_neg c3] at H; have AA : decide ((wrap64 (a1 - (l0.length : Int))) < 0) = false := decide_eq_false c3; clear c3; obtain rfl := Option.some.inj H; go_enter Tryd.func41, Tryd.ntmps41
  go_wp2
  go_ret
  exact ⟨zF, zD⟩

/-! ### laws_szState: function 21 -/
def laws_szState.f (k : Nat) (l0_0 : List (S84)) (l0_1 : List (S87)) (a1 : Int) : Option (Int) := (laws_szItemS.f k l0_0 a1).bind fun t189 => (if t189 < 0 then (some (-1)) else ((laws_szFloorS.f l0_1 t189).bind fun t190 => (if t190 < 0 then (some (-1)) else (some t190))))
theorem laws_szState.mono : ∀ a0 a1 a2 k, LeO (laws_szState.f k a0 a1 a2) (laws_szState.f (k + 1) a0 a1 a2) := by
 intro a0 a1 a2 k
 unfold laws_szState.f
 repeat' first | (with_reducible first | exact LeO.refl _ | exact LeO.none _ | refine LeO.ite ?_ ?_ | refine LeO.bind ?_ (fun _ => ?_) | apply laws_szItemS.mono) | apply laws_szItemS.mono | exact LeO.none _ | refine LeO.ite ?_ ?_ | refine LeO.bind ?_ (fun _ => ?_)
set_option maxHeartbeats 8000000 in
set_option maxRecDepth 100000 in
theorem laws_szState.calls (k : Nat) (A0_0 : Option Addr) (c0_0 : Nat) (l0_0 : List (S84)) (A0_1 : Option Addr) (c0_1 : Nat) (l0_1 : List (S87)) (a1 : Int) (r : Int) (w : World) (hr0_0 : Kd.C k84 w A0_0 l0_0.length l0_0) (hc0_0 : l0_0.length ≤ c0_0) (hr0_1 : Kd.C k87 w A0_1 l0_1.length l0_1) (hc0_1 : l0_1.length ≤ c0_1) (h : laws_szState.f k l0_0 l0_1 a1 = some r) :
  Calls Tryd.prog 21 #[.agg #[.slice A0_0 l0_0.length c0_0, .slice A0_1 l0_1.length c0_1], .int .i64 a1] w fun e w' => e = .returned (.int .i64 r) ∧ Below w.heap.size w w' := by
 have hu39 := Tryd.underlying39; have HR0_0 := zm hr0_0; have HC0_0 := zm hc0_0; clear hr0_0 hc0_0; have HR0_1 := zm hr0_1; have HC0_1 := zm hc0_1; clear hr0_1 hc0_1; have HB := zm (Below.refl w.heap.size w); have H : ((laws_szItemS.f k l0_0 a1).bind fun AB => (if AB < 0 then (some (-1)) else ((laws_szFloorS.f l0_1 AB).bind fun AC => (if AC < 0 then (some (-1)) else (some AC))))) = some r := h; clear h; replace H := Option.bind_eq_some_iff.mp H; obtain ⟨AB, AG, H⟩ := H; (try dsimp only at H); have A3 := zm AG; clear AG
 by_cases c4 : AB < 0
 ·rw [if_pos c4] at H; have AI : decide (AB < 0) = true := decide_eq_true c4; clear c4; obtain rfl := Option.some.inj H; go_enter Tryd.func21, Tryd.ntmps21
  go_wp2_with (first | ((with_reducible refine gate_dst (N := 2) rfl ?_); refine zbox 2 #[.slice A0_0 l0_0.length c0_0, .slice A0_1 l0_1.length c0_1] 39 ?_; intro AF hg w5 hbox hb; have AA := zm (hbox); have AE := zge w hg zB; have AD := zge w hg zB; replace HB := zm (below_step zB hb); clear hb hbox hg; obtain ⟨Aa, Ab, Ac, Ad⟩ := zc2 AA) | ((with_reducible refine gate_callee (f := 40) rfl ?_); refine zg (some 8) #[.slice A0_0 l0_0.length c0_0, .int .i64 a1] Tryd.func40 ?_; (with_reducible refine (laws_szItemS.calls k _ _ l0_0 a1 AB _ (zk (Kd.C_below HR0_0.out HB.out)) HC0_0.out A3.out).mono ?_); rintro e w7 ⟨rfl, hb⟩; refine ⟨_, rfl, ?_⟩; replace AA := zy AA hb; replace HB := zm (below_step zB hb); clear hb))
  go_ret
  exact ⟨zE, zB⟩
 ·rw [if_neg c4] at H; have AI : decide (AB < 0) = false := decide_eq_false c4; clear c4; replace H := Option.bind_eq_some_iff.mp H; obtain ⟨AC, AH, H⟩ := H; (try dsimp only at H); have A8 := zm AH; clear AH
  by_cases c9 : AC < 0
  ·rw [if_pos c9] at H; have AJ : decide (AC < 0) = true := decide_eq_true c9; clear c9; obtain rfl := Option.some.inj H; go_enter Tryd.func21, Tryd.ntmps21
   go_wp2_with (first | ((with_reducible refine gate_dst (N := 2) rfl ?_); refine zbox 2 #[.slice A0_0 l0_0.length c0_0, .slice A0_1 l0_1.length c0_1] 39 ?_; intro AF hg Ae hbox hb; have AA := zm (hbox); have AE := zge w hg zB; have AD := zge w hg zB; replace HB := zm (below_step zB hb); clear hb hbox hg; obtain ⟨AK, AL, AS, AT⟩ := zc2 AA) | ((with_reducible refine gate_callee (f := 40) rfl ?_); refine zg (some 8) #[.slice A0_0 l0_0.length c0_0, .int .i64 a1] Tryd.func40 ?_; (with_reducible refine (laws_szItemS.calls k _ _ l0_0 a1 AB _ (zk (Kd.C_below HR0_0.out HB.out)) HC0_0.out A3.out).mono ?_); rintro e Af ⟨rfl, hb⟩; refine ⟨_, rfl, ?_⟩; replace AA := zy AA hb; replace HB := zm (below_step zB hb); clear hb; obtain ⟨AM, AN, AU, AV⟩ := zc2 AA) | ((with_reducible refine gate_callee (f := 41) rfl ?_); refine zg (some 14) #[.slice A0_1 l0_1.length c0_1, .int .i64 AB] Tryd.func41 ?_; (with_reducible refine (laws_szFloorS.calls _ _ l0_1 AB AC _ (zk (Kd.C_below HR0_1.out HB.out)) HC0_1.out A8.out).mono ?_); rintro e w' ⟨rfl, ⟨nd, rfl⟩⟩; refine ⟨_, rfl, ?_⟩))
   go_ret
   exact ⟨zE, zB⟩
  ·rw [if_neg c9] at H; have AJ : decide (AC < 0) = false := decide_eq_false c9; clear c9; obtain rfl := Option.some.inj H; go_enter Tryd.func21, Tryd.ntmps21
   go_wp2_with (first | ((with_reducible refine gate_dst (N := 2) rfl ?_); refine zbox 2 #[.slice A0_0 l0_0.length c0_0, .slice A0_1 l0_1.length c0_1] 39 ?_; intro AF hg Ag hbox hb; have AA := zm (hbox); have AE := zge w hg zB; have AD := zge w hg zB; replace HB := zm (below_step zB hb); clear hb hbox hg; obtain ⟨AO, AP, AW, AX⟩ := zc2 AA) | ((with_reducible refine gate_callee (f := 40) rfl ?_); refine zg (some 8) #[.slice A0_0 l0_0.length c0_0, .int .i64 a1] Tryd.func40 ?_; (with_reducible refine (laws_szItemS.calls k _ _ l0_0 a1 AB _ (zk (Kd.C_below HR0_0.out HB.out)) HC0_0.out A3.out).mono ?_); rintro e Ah ⟨rfl, hb⟩; refine ⟨_, rfl, ?_⟩; replace AA := zy AA hb; replace HB := zm (below_step zB hb); clear hb; obtain ⟨AQ, AR, AY, AZ⟩ := zc2 AA) | ((with_reducible refine gate_callee (f := 41) rfl ?_); refine zg (some 14) #[.slice A0_1 l0_1.length c0_1, .int .i64 AB] Tryd.func41 ?_; (with_reducible refine (laws_szFloorS.calls _ _ l0_1 AB AC _ (zk (Kd.C_below HR0_1.out HB.out)) HC0_1.out A8.out).mono ?_); rintro e w' ⟨rfl, ⟨nd, rfl⟩⟩; refine ⟨_, rfl, ?_⟩))
   go_ret
   exact ⟨zE, zB⟩

/-! ### laws_toItem: function 60 -/
def laws_toItem.f (a0_0 : Int) (a0_1 : Int) (a0_2 : Int) (a0_3 : Int) (a0_4 : Int) (a0_5 : ByteArray) : Option (Int × Int × Int × Int × Int × ByteArray) := (laws_toEntry.f a0_1 a0_2 a0_3 a0_4 a0_5).bind fun bt211 => (some (a0_0, bt211.1, bt211.2.1, bt211.2.2.1, bt211.2.2.2.1, bt211.2.2.2.2))
set_option maxHeartbeats 8000000 in
set_option maxRecDepth 100000 in
theorem laws_toItem.calls (a0_0 : Int) (a0_1 : Int) (a0_2 : Int) (a0_3 : Int) (a0_4 : Int) (a0_5 : ByteArray) (r1 : Int) (r2 : Int) (r3 : Int) (r4 : Int) (r5 : Int) (r6 : ByteArray) (w : World) (h : laws_toItem.f a0_0 a0_1 a0_2 a0_3 a0_4 a0_5 = some (r1, r2, r3, r4, r5, r6)) :
  Calls Tryd.prog 60 #[.agg #[.int .i64 a0_0, .int .i64 a0_1, .int .i64 a0_2, .int .i64 a0_3, .int .i64 a0_4, .string a0_5]] w fun e w' => e = .returned (.agg #[.int .i64 r1, .int .i64 r2, .int .i64 r3, .int .i64 r4, .int .i64 r5, .string r6]) ∧ Below w.heap.size w w' := by
 have hu84 := Tryd.underlying84; have hu63 := Tryd.underlying63; have hu25 := Tryd.underlying25; have hu28 := Tryd.underlying28; have HB := zm (Below.refl w.heap.size w); have H : ((laws_toEntry.f a0_1 a0_2 a0_3 a0_4 a0_5).bind fun AD => (some (a0_0, AD.1, AD.2.1, AD.2.2.1, AD.2.2.2.1, AD.2.2.2.2))) = some (r1, r2, r3, r4, r5, r6) := h; clear h; replace H := Option.bind_eq_some_iff.mp H; obtain ⟨⟨AK, AL, AM, AN, AO⟩, AR, H⟩ := H; (try dsimp only at H); have A2 := zm AR; clear AR; simp only [Option.some.injEq, Prod.mk.injEq] at H; obtain ⟨rfl, rfl, rfl, rfl, rfl, rfl⟩ := H; go_enter Tryd.func60, Tryd.ntmps60
 go_wp2_with (first | ((with_reducible refine gate_dst (N := 1) rfl ?_); refine zbox 1 #[.int .i64 a0_0, .int .i64 a0_1, .int .i64 a0_2, .int .i64 a0_3, .int .i64 a0_4, .string a0_5] 84 ?_; intro BR hg w3 hbox hb; have AB := zm (hbox); have BO := zge w hg zB; have BL := zge w hg zB; replace HB := zm (below_step zB hb); clear hb hbox hg) | ((with_reducible refine gate_dst (N := 2) rfl ?_); refine zbox 2 #[.int .i64 0, .int .i64 0, .int .i64 0, .int .i64 0, .int .i64 0, .string (⟨#[]⟩ : ByteArray)] 63 ?_; intro AP hg w4 hbox hb; have AC := zm (hbox); have BP := zge w hg zB; have BM := zge w hg zB; replace HB := zm (below_step zB hb); have AG := zlt hg (zb AB); have AH := zgt hg (zb AB); replace AB := zy AB hb; clear hb hbox hg) | ((with_reducible refine gate_dst (N := 3) rfl ?_); refine zbox 3 #[.int .i64 0, .int .i64 0, .int .i64 0, .int .i64 0, .int .i64 0, .string (⟨#[]⟩ : ByteArray)] 63 ?_; intro AQ hg w5 hbox hb; have AF := zm (hbox); have BQ := zge w hg zB; have BN := zge w hg zB; replace HB := zm (below_step zB hb); have AE := zlt hg (zb AB); have AI := zgt hg (zb AB); replace AB := zy AB hb; have AA := zlt hg (zb AC); have AJ := zgt hg (zb AC); replace AC := zy AC hb; clear hb hbox hg; have BS := AG.out; have BV := AH.out; have BT := AE.out; have BW := AI.out; obtain ⟨B3, BA, BB, BC, BD, BE, BF, BG, BH, BI, BJ, BK⟩ := zc6 AB; have BU := AJ.out; have BX := AA.out; obtain ⟨AS, AT, AU, AV, AW, AX, Ak, Al, Am, An, Ao, Ap⟩ := zc6 AF) | ((with_reducible refine gate_callee (f := 14) rfl ?_); refine zg (some 9) #[.agg #[.int .i64 a0_1, .int .i64 a0_2, .int .i64 a0_3, .int .i64 a0_4, .string a0_5]] Tryd.func14 ?_; (with_reducible refine (laws_toEntry.calls a0_1 a0_2 a0_3 a0_4 a0_5 AK AL AM AN AO _ A2.out).mono ?_); rintro e BY ⟨rfl, hb⟩; refine ⟨_, rfl, ?_⟩; replace AB := zyb hb (zfar (zb AB) AE); replace AC := zyb hb (zfar (zb AC) AA); replace AF := zm (blk_below (g := AQ) (o := .cells #[.int .i64 a0_0, .int .i64 0, .int .i64 0, .int .i64 0, .int .i64 0, .string (⟨#[]⟩ : ByteArray)] 63 (0, 0)) (zput (zb AF) 0) hb); replace HB := zm (below_step zB hb); clear hb; obtain ⟨AY, AZ, Aa, Ab, Ac, Ad, Aq, Ar, As, At, Au, Av⟩ := zc6 AF; obtain ⟨Ae, Af, Ag, Ah, Ai, Aj, Aw, Ax, Ay, Az, B0, B2⟩ := zc6 AC))
 refine bodyPost_ret (results_cell_row rfl _ _ AP 63 #[.int .i64 a0_0, .int .i64 AK, .int .i64 AL, .int .i64 AM, .int .i64 AN, .string AO] (0, 0) _ rfl (zput (zput (zput (zput (zput (zput (zfar (zfar (zfar (zfar (zfar (zb AC) AA) AA) AA) AA) AA) 0) 1) 2) 3) 4) 5) Tryd.underlying63 rfl (by kernel_rfl)) rfl ?_
 exact ⟨zE, zB⟩

/-! ### laws_toItemS: function 42 -/
def laws_toItemS.l0 : Nat → List (S84) → List (S63) → Int → Option ((List (S63)))
 | 0, _, _, _ => none
 | k + 1, x0, x3, x4 => if x4 < (x0.length : Int) then (if 0 ≤ x4 then ((laws_toItem.f ((rd_T84 x0 x4).f0) ((rd_T84 x0 x4).f1.f0) ((rd_T84 x0 x4).f1.f1) ((rd_T84 x0 x4).f1.f2) ((rd_T84 x0 x4).f1.f3) ((rd_T84 x0 x4).f1.f4)).bind fun bt220 => (if x4 < (x3.length : Int) then (laws_toItemS.l0 k x0 (x3.set (x4 : Int).toNat (⟨bt220.1, (⟨bt220.2.1, bt220.2.2.1, bt220.2.2.2.1, bt220.2.2.2.2.1, bt220.2.2.2.2.2⟩ : S28)⟩ : S63)) (wrap64 (x4 + 1))) else (none))) else (none)) else (some x3)
def laws_toItemS.f (k : Nat) (l0 : List (S84)) : Option ((List (S63))) := if 0 ≤ (l0.length : Int) then (if ((l0.length : Int) : Int).toNat ≤ 5026338869833 then (laws_toItemS.l0 k l0 (List.replicate ((l0.length : Int) : Int).toNat z63) 0) else (none)) else (none)
theorem laws_toItemS.mono_l : ∀ k, (∀ y0 y1 y2, LeO (laws_toItemS.l0 k y0 y1 y2) (laws_toItemS.l0 (k + 1) y0 y1 y2))
 | 0 => fun _ _ _ r h => by simp [laws_toItemS.l0] at h
 | k + 1 => by
  have ih0 := laws_toItemS.mono_l k
  ·intro y0 y1 y2
   unfold laws_toItemS.l0
   repeat' first | (with_reducible first | exact LeO.refl _ | exact LeO.none _ | refine LeO.ite ?_ ?_ | refine LeO.bind ?_ (fun _ => ?_) | apply ih0) | apply ih0 | exact LeO.none _ | refine LeO.ite ?_ ?_ | refine LeO.bind ?_ (fun _ => ?_)
theorem laws_toItemS.mono : ∀ a0 k, LeO (laws_toItemS.f k a0) (laws_toItemS.f (k + 1) a0) := by
 intro a0 k; have ih0 := laws_toItemS.mono_l k
 unfold laws_toItemS.f
 repeat' first | (with_reducible first | exact LeO.refl _ | exact LeO.none _ | refine LeO.ite ?_ ?_ | refine LeO.bind ?_ (fun _ => ?_) | apply ih0) | apply ih0 | exact LeO.none _ | refine LeO.ite ?_ ?_ | refine LeO.bind ?_ (fun _ => ?_)
set_option maxHeartbeats 8000000 in
set_option maxRecDepth 100000 in
theorem laws_toItemS.calls (k : Nat) (A0 : Option Addr) (c0 : Nat) (l0 : List (S84)) (r : List (S63)) (w : World) (hr0 : Kd.C k84 w A0 l0.length l0) (hc0 : l0.length ≤ c0) (h : laws_toItemS.f k l0 = some r) :
  Calls Tryd.prog 42 #[.slice A0 l0.length c0] w fun e w' => ∃ v0_ : Value, e = .returned (v0_) ∧ Kd.R k63 63 w' w.heap.size (fun _ => True) v0_ r ∧ Below w.heap.size w w' := by
 have hu84 := Tryd.underlying84; have hu63 := Tryd.underlying63; have HR0 := zm hr0; have AY := zm hc0; clear hr0 hc0; have HB := zm (Below.refl w.heap.size w); have H : (if 0 ≤ (l0.length : Int) then (if ((l0.length : Int) : Int).toNat ≤ 5026338869833 then (laws_toItemS.l0 k l0 (List.replicate ((l0.length : Int) : Int).toNat z63) 0) else (none)) else (none)) = some r := h; clear h
 by_cases c2 : 0 ≤ (l0.length : Int)
 ·rw [if_pos c2] at H; have AR := eq_true c2; have AS : decide (0 ≤ (l0.length : Int)) = true := decide_eq_true c2; clear c2
  by_cases c3 : ((l0.length : Int) : Int).toNat ≤ 5026338869833
  ·rw [if_pos c3] at H; have AT := eq_true c3; have AU : decide (((l0.length : Int) : Int).toNat ≤ 5026338869833) = true := decide_eq_true c3; clear c3
   obtain ⟨y216, hy216⟩ : ∃ y_ : List (S63), y_ = (List.replicate ((l0.length : Int) : Int).toNat z63) := ⟨_, rfl⟩
   replace H : (laws_toItemS.l0 k l0 y216 0) = some r := by first | (rw [hy216]; with_reducible exact H) | (have H2_ := (Option.bind_some _ _).symm.trans H; rw [hy216]; with_reducible exact H2_) | (have H2_ := (Option.bind_some _ _).symm.trans H; with_reducible exact H2_) | with_reducible exact H | (rw [hy216]; exact H) | exact H
   have Ny216 := zm hy216; clear hy216
   have H' := zm H
   clear H; go_enter Tryd.func42, Tryd.ntmps42
   go_wp2_with (first | ((with_reducible refine gate_dst (N := 7) rfl ?_); refine Kd.R_make k63 _ 63 rfl (N := 7) rfl 42 _ _ rfl (l0.length : Int) rfl rfl Tryd.underlying42 (.agg #[(.int .i64 0), (.int .i64 0), (.int .i64 0), (.int .i64 0), (.int .i64 0), (.string ⟨#[]⟩)]) 56 info63 rfl (by decide) (by omega) z63 (ok := fun _ => True) (okp := fun _ => True) (k63_mkM _ _ _ z63 ) (fun _ hk => hk) trivial zd (Nat.le_trans (Nat.mul_le_mul_right _ (zd : (l0.length : Int).toNat ≤ 5026338869833)) (by omega)) (Below.refl _ _) (Nat.le_refl _) ?_; intro v217 w4 ho5 hb hg_ hnew_; clear hg_ hnew_; (first | rw [← Ny216.out] at ho5 | (simp only [Int.reduceToNat] at ho5; rw [← Ny216.out] at ho5)); have AO := zm (Kd.R_lower ho5 (below_size zB)); replace HB := zm (below_step zB hb); clear hb ho5))
   go_loopg [4] k (fun kq v4 w' => ∃ (AB : List (S63)) (AA : Int), v4 = .int .i64 AA ∧ Aside0 (laws_toItemS.l0 kq l0 AB AA = some r) ∧ Aside0 (kq ≤ k) ∧ Aside0 (Kd.R k63 63 w' w.heap.size (fun _ => True) v217 AB) ∧ Aside0 (Below w.heap.size w w'))
   case atStart => exact ⟨(y216), (0), zF, H', ⟨Nat.le_refl _⟩, ⟨zr AO⟩, ⟨zB⟩⟩
   case round =>
    clear H'; (try clear c2); (try clear AR); (try clear AS); (try clear c3); (try clear AT); (try clear AU); obtain ⟨AB, AA, rfl, HA, AQ, AD, HB⟩ := hrel
    cases gk with
    | zero => exact absurd HA.out (by simp [laws_toItemS.l0])
    | succ k1 =>
     have H := HA.out; clear HA; simp only [laws_toItemS.l0] at H
     by_cases c6 : AA < (l0.length : Int)
     ·rw [if_pos c6] at H; have AV : decide (AA < (l0.length : Int)) = true := decide_eq_true c6; clear c6
      by_cases c7 : 0 ≤ AA
      ·rw [if_pos c7] at H; have AW : decide (0 ≤ AA) = true := decide_eq_true c7; clear c7; replace H := Option.bind_eq_some_iff.mp H; obtain ⟨⟨AE, AF, AG, AH, AI, AJ⟩, AP, H⟩ := H; (try dsimp only at H); have A8 := zm AP; clear AP
       by_cases c9 : AA < (AB.length : Int)
       ·rw [if_pos c9] at H; have AX : decide (AA < (AB.length : Int)) = true := decide_eq_true c9; clear c9
        obtain ⟨y226, hy226⟩ : ∃ y_ : List (S63), y_ = (AB.set (AA : Int).toNat (⟨AE, (⟨AF, AG, AH, AI, AJ⟩ : S28)⟩ : S63)) := ⟨_, rfl⟩
        replace H : (laws_toItemS.l0 k1 l0 y226 (wrap64 (AA + 1))) = some r := by first | (rw [hy226]; with_reducible exact H) | (have H2_ := (Option.bind_some _ _).symm.trans H; rw [hy226]; with_reducible exact H2_) | (have H2_ := (Option.bind_some _ _).symm.trans H; with_reducible exact H2_) | with_reducible exact H | (rw [hy226]; exact H) | exact H
        have Ny226 := zm hy226; clear hy226
        have H' := zm H
        clear H; have p219 : 0 ≤ (AA : Int) := zd; have q219 : AA < (l0.length : Int) := zd; obtain ⟨ad219, e219, hx219_0, hx219_1, hx219_2, hx219_3, hx219_4, hx219_5⟩ := at_T84 (Kd.C_below HR0.out HB.out) AA p219 q219; cases e219; replace p219 := eq_true p219; replace q219 := eq_true q219
        go_wp2_with (first | ((with_reducible refine gate_callee (f := 60) rfl ?_); refine zg (some 20) #[.agg #[.int .i64 ((rd_T84 l0 AA).f0), .int .i64 ((rd_T84 l0 AA).f1.f0), .int .i64 ((rd_T84 l0 AA).f1.f1), .int .i64 ((rd_T84 l0 AA).f1.f2), .int .i64 ((rd_T84 l0 AA).f1.f3), .string ((rd_T84 l0 AA).f1.f4)]] Tryd.func60 ?_; (with_reducible refine (laws_toItem.calls ((rd_T84 l0 AA).f0) ((rd_T84 l0 AA).f1.f0) ((rd_T84 l0 AA).f1.f1) ((rd_T84 l0 AA).f1.f2) ((rd_T84 l0 AA).f1.f3) ((rd_T84 l0 AA).f1.f4) AE AF AG AH AI AJ _ A8.out).mono ?_); rintro e AC ⟨rfl, hb⟩; refine ⟨_, rfl, ?_⟩; replace AD := zw AD hb; replace HB := zm (below_step zB hb); clear hb; have p10 : 0 ≤ (AA : Int) := zd; have q10 : (AA : Int) < ((AB.length : Int) : Int) := zd; obtain ⟨go10, AL, eo10, AM, gl10, cl10, HG10⟩ := Kd.R_form AD.out (by omega); (first | cases eo10 | (injection eo10 with ea_ en_ ec_; (first | subst ea_ | (injection ea_ with ea_; subst ea_)); subst ec_; clear en_)); have GB10 := zm AM; have GG10 := zm HG10; clear AM gl10 HG10; obtain ⟨ce10, hcl10, hM10, hcc10, hfr10⟩ := Kd.R_elem AD.out z63 (AA : Int) p10 q10; obtain rfl := k63_openM hM10; have hx10_0 : AC.cell? ⟨go10, (AA : Int).toNat * 6, none⟩ = some (.int .i64 ((rd_T63 AB AA).f0)) := hcc10 0 _ rfl; have hx10_1 : AC.cell? ⟨go10, (AA : Int).toNat * 6 + 1, none⟩ = some (.int .i64 ((rd_T63 AB AA).f1.f0)) := hcc10 1 _ rfl; have hx10_2 : AC.cell? ⟨go10, (AA : Int).toNat * 6 + 2, none⟩ = some (.int .i64 ((rd_T63 AB AA).f1.f1)) := hcc10 2 _ rfl; have hx10_3 : AC.cell? ⟨go10, (AA : Int).toNat * 6 + 3, none⟩ = some (.int .i64 ((rd_T63 AB AA).f1.f2)) := hcc10 3 _ rfl; have hx10_4 : AC.cell? ⟨go10, (AA : Int).toNat * 6 + 4, none⟩ = some (.int .i64 ((rd_T63 AB AA).f1.f3)) := hcc10 4 _ rfl; have hx10_5 : AC.cell? ⟨go10, (AA : Int).toNat * 6 + 5, none⟩ = some (.string ((rd_T63 AB AA).f1.f4)) := hcc10 5 _ rfl; have hf10_0 : AC.frozen? ⟨go10, (AA : Int).toNat * 6, none⟩ = false := hfr10 0; have hf10_1 : AC.frozen? ⟨go10, (AA : Int).toNat * 6 + 1, none⟩ = false := hfr10 1; have hf10_2 : AC.frozen? ⟨go10, (AA : Int).toNat * 6 + 2, none⟩ = false := hfr10 2; have hf10_3 : AC.frozen? ⟨go10, (AA : Int).toNat * 6 + 3, none⟩ = false := hfr10 3; have hf10_4 : AC.frozen? ⟨go10, (AA : Int).toNat * 6 + 4, none⟩ = false := hfr10 4; have hf10_5 : AC.frozen? ⟨go10, (AA : Int).toNat * 6 + 5, none⟩ = false := hfr10 5; clear hcl10 hcc10 hfr10 hM10; replace p10 := eq_true p10; replace q10 := eq_true q10; have AK := zm (show Kd.R k63 63 AC w.heap.size (fun _ => True) (.slice (some ⟨go10, 0, none⟩) AB.length AL) AB from (zr AD)); obtain ⟨ce12, hcl12, hM12, hcc12, hfr12⟩ := Kd.R_elem AK.out z63 (AA : Int) zd (by have h_ : (AA : Int) < ((AB.length : Int) : Int) := zd; first | exact h_ | (have e_ := (Kd.R_reads' AD.out).1; omega) | simpa using h_); obtain rfl := k63_openM hM12; have HP12 := Kd.R_seg AK.out (AA : Int) zd (by have h_ : (AA : Int) < ((AB.length : Int) : Int) := zd; first | exact h_ | (have e_ := (Kd.R_reads' AD.out).1; omega) | simpa using h_) (seg := [.int .i64 AE, .int .i64 AF, .int .i64 AG, .int .i64 AH, .int .i64 AI, .string AJ]) (j := 0) hcl12 hcc12 (show 6 ≤ 6 from by decide) (x' := (⟨AE, (⟨AF, AG, AH, AI, AJ⟩ : S28)⟩ : S63)) (k63_mkM _ _ _ (⟨AE, (⟨AF, AG, AH, AI, AJ⟩ : S28)⟩ : S63) ) (fun _ hk => hk); have hx12_0 := hcc12 0 _ rfl; (try simp only [show (k63).sz = 6 from rfl, Nat.mul_one, Nat.add_zero] at hx12_0); have hf12_0 := hfr12 0; (try simp only [show (k63).sz = 6 from rfl, Nat.mul_one, Nat.add_zero] at hf12_0); have hx12_1 := hcc12 1 _ rfl; (try simp only [show (k63).sz = 6 from rfl, Nat.mul_one, Nat.add_zero] at hx12_1); have hf12_1 := hfr12 1; (try simp only [show (k63).sz = 6 from rfl, Nat.mul_one, Nat.add_zero] at hf12_1); have hx12_2 := hcc12 2 _ rfl; (try simp only [show (k63).sz = 6 from rfl, Nat.mul_one, Nat.add_zero] at hx12_2); have hf12_2 := hfr12 2; (try simp only [show (k63).sz = 6 from rfl, Nat.mul_one, Nat.add_zero] at hf12_2); have hx12_3 := hcc12 3 _ rfl; (try simp only [show (k63).sz = 6 from rfl, Nat.mul_one, Nat.add_zero] at hx12_3); have hf12_3 := hfr12 3; (try simp only [show (k63).sz = 6 from rfl, Nat.mul_one, Nat.add_zero] at hf12_3); have hx12_4 := hcc12 4 _ rfl; (try simp only [show (k63).sz = 6 from rfl, Nat.mul_one, Nat.add_zero] at hx12_4); have hf12_4 := hfr12 4; (try simp only [show (k63).sz = 6 from rfl, Nat.mul_one, Nat.add_zero] at hf12_4); have hx12_5 := hcc12 5 _ rfl; (try simp only [show (k63).sz = 6 from rfl, Nat.mul_one, Nat.add_zero] at hx12_5); have hf12_5 := hfr12 5; (try simp only [show (k63).sz = 6 from rfl, Nat.mul_one, Nat.add_zero] at hf12_5); clear hcl12 hcc12 hfr12 hM12) | ((with_reducible refine gate_store (t := 63) (p := 21) rfl ?_); refine store_event (t := 63) (p := 21) (v := ?vo_w13) (w1 := ((((((AC.setCell ⟨go10, (AA : Int).toNat * 6, none⟩ (.int .i64 AE)).setCell ⟨go10, (AA : Int).toNat * 6 + 1, none⟩ (.int .i64 AF)).setCell ⟨go10, (AA : Int).toNat * 6 + 2, none⟩ (.int .i64 AG)).setCell ⟨go10, (AA : Int).toNat * 6 + 3, none⟩ (.int .i64 AH)).setCell ⟨go10, (AA : Int).toNat * 6 + 4, none⟩ (.int .i64 AI)).setCell ⟨go10, (AA : Int).toNat * 6 + 5, none⟩ (.string AJ))) ?hg ?ho ?hn ?hr ?_; (case ho => rfl); (case hg => rfl); (case hn => rfl); (case hr => first | (go_simp; done) | (go_simp; rfl)); intro AN hw; have hg : AC.grownBy AN (some go10) := (by rw [hw]; exact HP12.2); have hp_ : Kd.R k63 63 AN w.heap.size (fun _ => True) (.slice (some ⟨go10, 0, none⟩) AB.length AL) y226 := (by rw [hw, Ny226.out]; exact HP12.1); clear HP12; replace AD := zm (hp_); replace HB := zm ((by rw [hw]; exact below_set (below_set (below_set (below_set (below_set (below_set (HB.out) GB10.out) GB10.out) GB10.out) GB10.out) GB10.out) GB10.out : Below w.heap.size w AN)); clear hg hw hp_))
        go_roundg k1
        case measure => have := AQ.out; omega
        case rel => exact ⟨(y226), (wrap64 (AA + 1)), zF, H', ⟨by have := AQ.out; omega⟩, ⟨zr AD⟩, ⟨zB⟩⟩
       ·rw [if_neg c9] at H
        exact absurd H (by simp)
      ·rw [if_neg c7] at H
       exact absurd H (by simp)
     ·rw [if_neg c6] at H; have AV : decide (AA < (l0.length : Int)) = false := decide_eq_false c6; clear c6; obtain rfl := Option.some.inj H
      go_wp2
      go_ret
      exact ⟨_, zE, zr AD, zB⟩
  ·rw [if_neg c3] at H
   exact absurd H (by simp)
 ·rw [if_neg c2] at H
  exact absurd H (by simp)

/-! ### laws_toFloor: function 61 -/
def laws_toFloor.f (a0_0 : Int) (a0_1 : Int) : Option (Int × Int) := some (a0_0, a0_1)
set_option maxHeartbeats 8000000 in
set_option maxRecDepth 100000 in
theorem laws_toFloor.calls (a0_0 : Int) (a0_1 : Int) (r1 : Int) (r2 : Int) (w : World) (h : laws_toFloor.f a0_0 a0_1 = some (r1, r2)) :
  Calls Tryd.prog 61 #[.agg #[.int .i64 a0_0, .int .i64 a0_1]] w fun e w' => e = .returned (.agg #[.int .i64 r1, .int .i64 r2]) ∧ Below w.heap.size w w' := by
 have hu87 := Tryd.underlying87; have hu68 := Tryd.underlying68; have HB := zm (Below.refl w.heap.size w); have H : (some (a0_0, a0_1)) = some (r1, r2) := h; clear h; simp only [Option.some.injEq, Prod.mk.injEq] at H; obtain ⟨rfl, rfl⟩ := H; go_enter Tryd.func61, Tryd.ntmps61
 go_wp2_with (first | ((with_reducible refine gate_dst (N := 1) rfl ?_); refine zbox 1 #[.int .i64 a0_0, .int .i64 a0_1] 87 ?_; intro Ac hg w2 hbox hb; have AA := zm (hbox); have AZ := zge w hg zB; have AW := zge w hg zB; replace HB := zm (below_step zB hb); clear hb hbox hg) | ((with_reducible refine gate_dst (N := 2) rfl ?_); refine zbox 2 #[.int .i64 0, .int .i64 0] 68 ?_; intro AJ hg w3 hbox hb; have AC := zm (hbox); have Aa := zge w hg zB; have AX := zge w hg zB; replace HB := zm (below_step zB hb); have AD := zlt hg (zb AA); have AF := zgt hg (zb AA); replace AA := zy AA hb; clear hb hbox hg) | ((with_reducible refine gate_dst (N := 3) rfl ?_); refine zbox 3 #[.int .i64 0, .int .i64 0] 68 ?_; intro Ad hg w4 hbox hb; have AI := zm (hbox); have Ab := zge w hg zB; have AY := zge w hg zB; replace HB := zm (below_step zB hb); have AE := zlt hg (zb AA); have AG := zgt hg (zb AA); replace AA := zy AA hb; have AB := zlt hg (zb AC); have AH := zgt hg (zb AC); replace AC := zy AC hb; clear hb hbox hg; have Ae := AD.out; have Ah := AF.out; have Af := AE.out; have Ai := AG.out; obtain ⟨AO, AP, AS, AT⟩ := zc2 AA; have Ag := AH.out; have Aj := AB.out; obtain ⟨AQ, AR, AU, AV⟩ := zc2 AI; obtain ⟨AK, AL, AM, AN⟩ := zc2 AC))
 refine bodyPost_ret (results_cell_row rfl _ _ AJ 68 #[.int .i64 a0_0, .int .i64 a0_1] (0, 0) _ rfl (zput (zput (zfar (zfar (zb AC) AB) AB) 0) 1) Tryd.underlying68 rfl (by kernel_rfl)) rfl ?_
 exact ⟨zE, zB⟩

/-! ### laws_toFloorS: function 43 -/
def laws_toFloorS.l0 : Nat → List (S87) → List (S68) → Int → Option ((List (S68)))
 | 0, _, _, _ => none
 | k + 1, x0, x3, x4 => if x4 < (x0.length : Int) then (if 0 ≤ x4 then ((laws_toFloor.f ((rd_T87 x0 x4).f0) ((rd_T87 x0 x4).f1)).bind fun bt234 => (if x4 < (x3.length : Int) then (laws_toFloorS.l0 k x0 (x3.set (x4 : Int).toNat (⟨bt234.1, bt234.2⟩ : S68)) (wrap64 (x4 + 1))) else (none))) else (none)) else (some x3)
def laws_toFloorS.f (k : Nat) (l0 : List (S87)) : Option ((List (S68))) := if 0 ≤ (l0.length : Int) then (if ((l0.length : Int) : Int).toNat ≤ 17592186044416 then (laws_toFloorS.l0 k l0 (List.replicate ((l0.length : Int) : Int).toNat z68) 0) else (none)) else (none)
theorem laws_toFloorS.mono_l : ∀ k, (∀ y0 y1 y2, LeO (laws_toFloorS.l0 k y0 y1 y2) (laws_toFloorS.l0 (k + 1) y0 y1 y2))
 | 0 => fun _ _ _ r h => by simp [laws_toFloorS.l0] at h
 | k + 1 => by
  have ih0 := laws_toFloorS.mono_l k
  ·intro y0 y1 y2
   unfold laws_toFloorS.l0
   repeat' first | (with_reducible first | exact LeO.refl _ | exact LeO.none _ | refine LeO.ite ?_ ?_ | refine LeO.bind ?_ (fun _ => ?_) | apply ih0) | apply ih0 | exact LeO.none _ | refine LeO.ite ?_ ?_ | refine LeO.bind ?_ (fun _ => ?_)
theorem laws_toFloorS.mono : ∀ a0 k, LeO (laws_toFloorS.f k a0) (laws_toFloorS.f (k + 1) a0) := by
 intro a0 k; have ih0 := laws_toFloorS.mono_l k
 unfold laws_toFloorS.f
 repeat' first | (with_reducible first | exact LeO.refl _ | exact LeO.none _ | refine LeO.ite ?_ ?_ | refine LeO.bind ?_ (fun _ => ?_) | apply ih0) | apply ih0 | exact LeO.none _ | refine LeO.ite ?_ ?_ | refine LeO.bind ?_ (fun _ => ?_)
set_option maxHeartbeats 8000000 in
set_option maxRecDepth 100000 in
theorem laws_toFloorS.calls (k : Nat) (A0 : Option Addr) (c0 : Nat) (l0 : List (S87)) (r : List (S68)) (w : World) (hr0 : Kd.C k87 w A0 l0.length l0) (hc0 : l0.length ≤ c0) (h : laws_toFloorS.f k l0 = some r) :
  Calls Tryd.prog 43 #[.slice A0 l0.length c0] w fun e w' => ∃ v0_ : Value, e = .returned (v0_) ∧ Kd.R k68 68 w' w.heap.size (fun _ => True) v0_ r ∧ Below w.heap.size w w' := by
 have hu87 := Tryd.underlying87; have hu68 := Tryd.underlying68; have HR0 := zm hr0; have AU := zm hc0; clear hr0 hc0; have HB := zm (Below.refl w.heap.size w); have H : (if 0 ≤ (l0.length : Int) then (if ((l0.length : Int) : Int).toNat ≤ 17592186044416 then (laws_toFloorS.l0 k l0 (List.replicate ((l0.length : Int) : Int).toNat z68) 0) else (none)) else (none)) = some r := h; clear h
 by_cases c2 : 0 ≤ (l0.length : Int)
 ·rw [if_pos c2] at H; have AN := eq_true c2; have AO : decide (0 ≤ (l0.length : Int)) = true := decide_eq_true c2; clear c2
  by_cases c3 : ((l0.length : Int) : Int).toNat ≤ 17592186044416
  ·rw [if_pos c3] at H; have AP := eq_true c3; have AQ : decide (((l0.length : Int) : Int).toNat ≤ 17592186044416) = true := decide_eq_true c3; clear c3
   obtain ⟨y230, hy230⟩ : ∃ y_ : List (S68), y_ = (List.replicate ((l0.length : Int) : Int).toNat z68) := ⟨_, rfl⟩
   replace H : (laws_toFloorS.l0 k l0 y230 0) = some r := by first | (rw [hy230]; with_reducible exact H) | (have H2_ := (Option.bind_some _ _).symm.trans H; rw [hy230]; with_reducible exact H2_) | (have H2_ := (Option.bind_some _ _).symm.trans H; with_reducible exact H2_) | with_reducible exact H | (rw [hy230]; exact H) | exact H
   have Ny230 := zm hy230; clear hy230
   have H' := zm H
   clear H; go_enter Tryd.func43, Tryd.ntmps43
   go_wp2_with (first | ((with_reducible refine gate_dst (N := 7) rfl ?_); refine Kd.R_make k68 _ 68 rfl (N := 7) rfl 43 _ _ rfl (l0.length : Int) rfl rfl Tryd.underlying43 (.agg #[(.int .i64 0), (.int .i64 0)]) 16 info68 rfl (by decide) (by omega) z68 (ok := fun _ => True) (okp := fun _ => True) (k68_mkM _ _ _ z68 ) (fun _ hk => hk) trivial zd (Nat.le_trans (Nat.mul_le_mul_right _ (zd : (l0.length : Int).toNat ≤ 17592186044416)) (by omega)) (Below.refl _ _) (Nat.le_refl _) ?_; intro v231 w4 ho5 hb hg_ hnew_; clear hg_ hnew_; (first | rw [← Ny230.out] at ho5 | (simp only [Int.reduceToNat] at ho5; rw [← Ny230.out] at ho5)); have AK := zm (Kd.R_lower ho5 (below_size zB)); replace HB := zm (below_step zB hb); clear hb ho5))
   go_loopg [4] k (fun kq v4 w' => ∃ (AB : List (S68)) (AA : Int), v4 = .int .i64 AA ∧ Aside0 (laws_toFloorS.l0 kq l0 AB AA = some r) ∧ Aside0 (kq ≤ k) ∧ Aside0 (Kd.R k68 68 w' w.heap.size (fun _ => True) v231 AB) ∧ Aside0 (Below w.heap.size w w'))
   case atStart => exact ⟨(y230), (0), zF, H', ⟨Nat.le_refl _⟩, ⟨zr AK⟩, ⟨zB⟩⟩
   case round =>
    clear H'; (try clear c2); (try clear AN); (try clear AO); (try clear c3); (try clear AP); (try clear AQ); obtain ⟨AB, AA, rfl, HA, AM, AC, HB⟩ := hrel
    cases gk with
    | zero => exact absurd HA.out (by simp [laws_toFloorS.l0])
    | succ k1 =>
     have H := HA.out; clear HA; simp only [laws_toFloorS.l0] at H
     by_cases c6 : AA < (l0.length : Int)
     ·rw [if_pos c6] at H; have AR : decide (AA < (l0.length : Int)) = true := decide_eq_true c6; clear c6
      by_cases c7 : 0 ≤ AA
      ·rw [if_pos c7] at H; have AS : decide (0 ≤ AA) = true := decide_eq_true c7; clear c7; replace H := Option.bind_eq_some_iff.mp H; obtain ⟨⟨AD, AE⟩, AL, H⟩ := H; (try dsimp only at H); have A8 := zm AL; clear AL
       by_cases c9 : AA < (AB.length : Int)
       ·rw [if_pos c9] at H; have AT : decide (AA < (AB.length : Int)) = true := decide_eq_true c9; clear c9
        obtain ⟨y236, hy236⟩ : ∃ y_ : List (S68), y_ = (AB.set (AA : Int).toNat (⟨AD, AE⟩ : S68)) := ⟨_, rfl⟩
        replace H : (laws_toFloorS.l0 k1 l0 y236 (wrap64 (AA + 1))) = some r := by first | (rw [hy236]; with_reducible exact H) | (have H2_ := (Option.bind_some _ _).symm.trans H; rw [hy236]; with_reducible exact H2_) | (have H2_ := (Option.bind_some _ _).symm.trans H; with_reducible exact H2_) | with_reducible exact H | (rw [hy236]; exact H) | exact H
        have Ny236 := zm hy236; clear hy236
        have H' := zm H
        clear H; have p233 : 0 ≤ (AA : Int) := zd; have q233 : AA < (l0.length : Int) := zd; obtain ⟨ad233, e233, hx233_0, hx233_1⟩ := at_T87 (Kd.C_below HR0.out HB.out) AA p233 q233; cases e233; replace p233 := eq_true p233; replace q233 := eq_true q233
        go_wp2_with (first | ((with_reducible refine gate_callee (f := 61) rfl ?_); refine zg (some 20) #[.agg #[.int .i64 ((rd_T87 l0 AA).f0), .int .i64 ((rd_T87 l0 AA).f1)]] Tryd.func61 ?_; (with_reducible refine (laws_toFloor.calls ((rd_T87 l0 AA).f0) ((rd_T87 l0 AA).f1) AD AE _ A8.out).mono ?_); rintro e AF ⟨rfl, hb⟩; refine ⟨_, rfl, ?_⟩; replace AC := zw AC hb; replace HB := zm (below_step zB hb); clear hb; have p10 : 0 ≤ (AA : Int) := zd; have q10 : (AA : Int) < ((AB.length : Int) : Int) := zd; obtain ⟨go10, AH, eo10, AI, gl10, cl10, HG10⟩ := Kd.R_form AC.out (by omega); (first | cases eo10 | (injection eo10 with ea_ en_ ec_; (first | subst ea_ | (injection ea_ with ea_; subst ea_)); subst ec_; clear en_)); have GB10 := zm AI; have GG10 := zm HG10; clear AI gl10 HG10; obtain ⟨ce10, hcl10, hM10, hcc10, hfr10⟩ := Kd.R_elem AC.out z68 (AA : Int) p10 q10; obtain rfl := k68_openM hM10; have hx10_0 : AF.cell? ⟨go10, (AA : Int).toNat * 2, none⟩ = some (.int .i64 ((rd_T68 AB AA).f0)) := hcc10 0 _ rfl; have hx10_1 : AF.cell? ⟨go10, (AA : Int).toNat * 2 + 1, none⟩ = some (.int .i64 ((rd_T68 AB AA).f1)) := hcc10 1 _ rfl; have hf10_0 : AF.frozen? ⟨go10, (AA : Int).toNat * 2, none⟩ = false := hfr10 0; have hf10_1 : AF.frozen? ⟨go10, (AA : Int).toNat * 2 + 1, none⟩ = false := hfr10 1; clear hcl10 hcc10 hfr10 hM10; replace p10 := eq_true p10; replace q10 := eq_true q10; have AG := zm (show Kd.R k68 68 AF w.heap.size (fun _ => True) (.slice (some ⟨go10, 0, none⟩) AB.length AH) AB from (zr AC)); obtain ⟨ce12, hcl12, hM12, hcc12, hfr12⟩ := Kd.R_elem AG.out z68 (AA : Int) zd (by have h_ : (AA : Int) < ((AB.length : Int) : Int) := zd; first | exact h_ | (have e_ := (Kd.R_reads' AC.out).1; omega) | simpa using h_); obtain rfl := k68_openM hM12; have HP12 := Kd.R_seg AG.out (AA : Int) zd (by have h_ : (AA : Int) < ((AB.length : Int) : Int) := zd; first | exact h_ | (have e_ := (Kd.R_reads' AC.out).1; omega) | simpa using h_) (seg := [.int .i64 AD, .int .i64 AE]) (j := 0) hcl12 hcc12 (show 2 ≤ 2 from by decide) (x' := (⟨AD, AE⟩ : S68)) (k68_mkM _ _ _ (⟨AD, AE⟩ : S68) ) (fun _ hk => hk); have hx12_0 := hcc12 0 _ rfl; (try simp only [show (k68).sz = 2 from rfl, Nat.mul_one, Nat.add_zero] at hx12_0); have hf12_0 := hfr12 0; (try simp only [show (k68).sz = 2 from rfl, Nat.mul_one, Nat.add_zero] at hf12_0); have hx12_1 := hcc12 1 _ rfl; (try simp only [show (k68).sz = 2 from rfl, Nat.mul_one, Nat.add_zero] at hx12_1); have hf12_1 := hfr12 1; (try simp only [show (k68).sz = 2 from rfl, Nat.mul_one, Nat.add_zero] at hf12_1); clear hcl12 hcc12 hfr12 hM12) | ((with_reducible refine gate_store (t := 68) (p := 21) rfl ?_); refine store_event (t := 68) (p := 21) (v := ?vo_w13) (w1 := ((AF.setCell ⟨go10, (AA : Int).toNat * 2, none⟩ (.int .i64 AD)).setCell ⟨go10, (AA : Int).toNat * 2 + 1, none⟩ (.int .i64 AE))) ?hg ?ho ?hn ?hr ?_; (case ho => rfl); (case hg => rfl); (case hn => rfl); (case hr => first | (go_simp; done) | (go_simp; rfl)); intro AJ hw; have hg : AF.grownBy AJ (some go10) := (by rw [hw]; exact HP12.2); have hp_ : Kd.R k68 68 AJ w.heap.size (fun _ => True) (.slice (some ⟨go10, 0, none⟩) AB.length AH) y236 := (by rw [hw, Ny236.out]; exact HP12.1); clear HP12; replace AC := zm (hp_); replace HB := zm ((by rw [hw]; exact below_set (below_set (HB.out) GB10.out) GB10.out : Below w.heap.size w AJ)); clear hg hw hp_))
        go_roundg k1
        case measure => have := AM.out; omega
        case rel => exact ⟨(y236), (wrap64 (AA + 1)), zF, H', ⟨by have := AM.out; omega⟩, ⟨zr AC⟩, ⟨zB⟩⟩
       ·rw [if_neg c9] at H
        exact absurd H (by simp)
      ·rw [if_neg c7] at H
       exact absurd H (by simp)
     ·rw [if_neg c6] at H; have AR : decide (AA < (l0.length : Int)) = false := decide_eq_false c6; clear c6; obtain rfl := Option.some.inj H
      go_wp2
      go_ret
      exact ⟨_, zE, zr AC, zB⟩
  ·rw [if_neg c3] at H
   exact absurd H (by simp)
 ·rw [if_neg c2] at H
  exact absurd H (by simp)

/-! ### laws_toState: function 23 -/
def laws_toState.f (k : Nat) (l0_0 : List (S84)) (l0_1 : List (S87)) : Option ((List (S63)) × (List (S68))) := (laws_toItemS.f k l0_0).bind fun t240 => ((laws_toFloorS.f k l0_1).bind fun t243 => (some (t240, t243)))
theorem laws_toState.mono : ∀ a0 a1 k, LeO (laws_toState.f k a0 a1) (laws_toState.f (k + 1) a0 a1) := by
 intro a0 a1 k
 unfold laws_toState.f
 repeat' first | (with_reducible first | exact LeO.refl _ | exact LeO.none _ | refine LeO.ite ?_ ?_ | refine LeO.bind ?_ (fun _ => ?_) | apply laws_toFloorS.mono | apply laws_toItemS.mono) | apply laws_toFloorS.mono | apply laws_toItemS.mono | exact LeO.none _ | refine LeO.ite ?_ ?_ | refine LeO.bind ?_ (fun _ => ?_)
set_option maxHeartbeats 8000000 in
set_option maxRecDepth 100000 in
theorem laws_toState.calls (k : Nat) (A0_0 : Option Addr) (c0_0 : Nat) (l0_0 : List (S84)) (A0_1 : Option Addr) (c0_1 : Nat) (l0_1 : List (S87)) (r1 : List (S63)) (r2 : List (S68)) (w : World) (hr0_0 : Kd.C k84 w A0_0 l0_0.length l0_0) (hc0_0 : l0_0.length ≤ c0_0) (hr0_1 : Kd.C k87 w A0_1 l0_1.length l0_1) (hc0_1 : l0_1.length ≤ c0_1) (h : laws_toState.f k l0_0 l0_1 = some (r1, r2)) :
  Calls Tryd.prog 23 #[.agg #[.slice A0_0 l0_0.length c0_0, .slice A0_1 l0_1.length c0_1]] w fun e w' => ∃ v0_ v1_ : Value, e = .returned (.agg #[v0_, v1_]) ∧ Kd.R k63 63 w' w.heap.size (fun _ => True) v0_ r1 ∧ Kd.R k68 68 w' w.heap.size (fun _ => True) v1_ r2 ∧ Below w.heap.size w w' := by
 have hu39 := Tryd.underlying39; have hu45 := Tryd.underlying45; have HR0_0 := zm hr0_0; have HC0_0 := zm hc0_0; clear hr0_0 hc0_0; have HR0_1 := zm hr0_1; have HC0_1 := zm hc0_1; clear hr0_1 hc0_1; have HB := zm (Below.refl w.heap.size w); have H : ((laws_toItemS.f k l0_0).bind fun AG => ((laws_toFloorS.f k l0_1).bind fun AH => (some (AG, AH)))) = some (r1, r2) := h; clear h; replace H := Option.bind_eq_some_iff.mp H; obtain ⟨AG, AR, H⟩ := H; (try dsimp only at H); have A2 := zm AR; clear AR; replace H := Option.bind_eq_some_iff.mp H; obtain ⟨AH, AS, H⟩ := H; (try dsimp only at H); have A3 := zm AS; clear AS; simp only [Option.some.injEq, Prod.mk.injEq] at H; obtain ⟨rfl, rfl⟩ := H; go_enter Tryd.func23, Tryd.ntmps23
 go_wp2_with (first | ((with_reducible refine gate_dst (N := 1) rfl ?_); refine zbox 1 #[.slice A0_0 l0_0.length c0_0, .slice A0_1 l0_1.length c0_1] 39 ?_; intro Av hg w4 hbox hb; have AA := zm (hbox); have As := zge w hg zB; have Ap := zge w hg zB; replace HB := zm (below_step zB hb); clear hb hbox hg) | ((with_reducible refine gate_dst (N := 2) rfl ?_); refine zbox 2 #[.slice none 0 0, .slice none 0 0] 45 ?_; intro AP hg w5 hbox hb; have AB := zm (hbox); have At := zge w hg zB; have Aq := zge w hg zB; replace HB := zm (below_step zB hb); have AI := zlt hg (zb AA); have AJ := zgt hg (zb AA); replace AA := zy AA hb; clear hb hbox hg) | ((with_reducible refine gate_dst (N := 3) rfl ?_); refine zbox 3 #[.slice none 0 0, .slice none 0 0] 45 ?_; intro AQ hg w6 hbox hb; have AC := zm (hbox); have Au := zge w hg zB; have Ar := zge w hg zB; replace HB := zm (below_step zB hb); have AE := zlt hg (zb AA); have AK := zgt hg (zb AA); replace AA := zy AA hb; have AD := zlt hg (zb AB); have AL := zgt hg (zb AB); replace AB := zy AB hb; clear hb hbox hg; have Ay := AI.out; have B0 := AJ.out; have Az := AE.out; have B2 := AK.out; obtain ⟨Al, Am, An, Ao⟩ := zc2 AA) | ((with_reducible refine gate_callee (f := 42) rfl ?_); refine zg (some 6) #[.slice A0_0 l0_0.length c0_0] Tryd.func42 ?_; (with_reducible refine (laws_toItemS.calls k _ _ l0_0 AG _ (zk (Kd.C_below HR0_0.out HB.out)) HC0_0.out A2.out).mono ?_); rintro e B3 ⟨v241, rfl, ho0, hb⟩; refine ⟨_, rfl, ?_⟩; have AF := zm (Kd.R_lower ho0 (below_size zB)); replace AA := zy AA hb; replace AB := zy AB hb; replace AC := zy AC hb; replace HB := zm (below_step zB hb); clear hb ho0; obtain ⟨AN, AO, eo11⟩ := Kd.R_slice AF.out; subst eo11; have Aw := AL.out; have Ax := AD.out; obtain ⟨AV, AW, Ad, Ae⟩ := zc2 AC; obtain ⟨AX, AY, Af, Ag⟩ := zc2 AA) | ((with_reducible refine gate_callee (f := 43) rfl ?_); refine zg (some 10) #[.slice A0_1 l0_1.length c0_1] Tryd.func43 ?_; (with_reducible refine (laws_toFloorS.calls k _ _ l0_1 AH _ ?side1 HC0_1.out A3.out).mono ?_); (case side1 => exact Kd.C_below HR0_1.out zB); rintro e BA ⟨v244, rfl, ho0, hb⟩; refine ⟨_, rfl, ?_⟩; replace AF := zm (Kd.R_below (zrs <| (Kd.R_mono (zfr (Kd.R_types AF.out AC.out (by decide))) (fun _ h_ => h_.1))) hb); have AM := zm (Kd.R_lower ho0 (below_size zB)); replace AA := zyb hb (zfar (zb AA) AE); replace AB := zyb hb (zfar (zb AB) AD); replace AC := zm (blk_below (g := AQ) (o := .cells #[.slice AN AG.length AO, .slice none 0 0] 45 (0, 0)) (zput (zb AC) 0) hb); replace HB := zm (below_step zB hb); clear hb ho0; obtain ⟨AT, AU, eo16⟩ := Kd.R_slice AM.out; subst eo16; obtain ⟨AZ, Aa, Ah, Ai⟩ := zc2 AC; obtain ⟨Ab, Ac, Aj, Ak⟩ := zc2 AB))
 refine bodyPost_ret (results_cell_row rfl _ _ AP 45 #[.slice AN AG.length AO, .slice AT AH.length AU] (0, 0) _ rfl (zput (zput (zfar (zb AB) AD) 0) 1) Tryd.underlying45 rfl (by kernel_rfl)) rfl ?_
 exact ⟨_, _, zE, zrs <| Kd.R_mono (zfr (zfr (zfq (Kd.R_types (Kd.R_types AF.out AC.out (by decide)) AB.out (by decide)) (fun _ hk => hk.1.2)))) (fun _ hk => trivial), zrs <| Kd.R_mono (zfr (zfr (zfq (Kd.R_types (Kd.R_types AM.out AC.out (by decide)) AB.out (by decide)) (fun _ hk => hk.1.2)))) (fun _ hk => trivial), zB⟩

/-! ### laws_eqEntry: function 89 -/
def laws_eqEntry.f (a0_0 : Int) (a0_1 : Int) (a0_2 : Int) (a0_3 : Int) (a0_4 : ByteArray) (a1_0 : Int) (a1_1 : Int) (a1_2 : Int) (a1_3 : Int) (a1_4 : ByteArray) : Option (Bool) := if a0_0 = a1_0 then (if a0_1 = a1_1 then (if a0_2 = a1_2 then (if a0_3 = a1_3 then (if a0_4.toList = a1_4.toList then (some true) else (some false)) else (some false)) else (some false)) else (some false)) else (some false)
set_option maxHeartbeats 8000000 in
set_option maxRecDepth 100000 in
theorem laws_eqEntry.calls (a0_0 : Int) (a0_1 : Int) (a0_2 : Int) (a0_3 : Int) (a0_4 : ByteArray) (a1_0 : Int) (a1_1 : Int) (a1_2 : Int) (a1_3 : Int) (a1_4 : ByteArray) (r : Bool) (w : World) (h : laws_eqEntry.f a0_0 a0_1 a0_2 a0_3 a0_4 a1_0 a1_1 a1_2 a1_3 a1_4 = some r) :
  Calls Tryd.prog 89 #[.agg #[.int .i64 a0_0, .int .i64 a0_1, .int .i64 a0_2, .int .i64 a0_3, .string a0_4], .agg #[.int .i64 a1_0, .int .i64 a1_1, .int .i64 a1_2, .int .i64 a1_3, .string a1_4]] w fun e w' => e = .returned (.bool r) ∧ Below w.heap.size w w' := by
 have hu28 := Tryd.underlying28; have HB := zm (Below.refl w.heap.size w); have H : (if a0_0 = a1_0 then (if a0_1 = a1_1 then (if a0_2 = a1_2 then (if a0_3 = a1_3 then (if a0_4.toList = a1_4.toList then (some true) else (some false)) else (some false)) else (some false)) else (some false)) else (some false)) = some r := h; clear h
 by_cases c3 : a0_0 = a1_0
 ·rw [if_pos c3] at H; have AK : (a0_0 == a1_0) = true := beq_iff_eq.mpr c3; have AL : (a0_0 != a1_0) = false := bne_eq_false_iff_eq.mpr c3; clear c3
  by_cases c4 : a0_1 = a1_1
  ·rw [if_pos c4] at H; have AM : (a0_1 == a1_1) = true := beq_iff_eq.mpr c4; have AN : (a0_1 != a1_1) = false := bne_eq_false_iff_eq.mpr c4; clear c4
   by_cases c5 : a0_2 = a1_2
   ·rw [if_pos c5] at H; have AO : (a0_2 == a1_2) = true := beq_iff_eq.mpr c5; have AP : (a0_2 != a1_2) = false := bne_eq_false_iff_eq.mpr c5; clear c5
    by_cases c6 : a0_3 = a1_3
    ·rw [if_pos c6] at H; have AQ : (a0_3 == a1_3) = true := beq_iff_eq.mpr c6; have AR : (a0_3 != a1_3) = false := bne_eq_false_iff_eq.mpr c6; clear c6
     by_cases c7 : a0_4.toList = a1_4.toList
     ·rw [if_pos c7] at H; have AS : (a0_4.toList == a1_4.toList) = true := beq_iff_eq.mpr c7; have AT : (a0_4.toList != a1_4.toList) = false := bne_eq_false_iff_eq.mpr c7; clear c7; obtain rfl := Option.some.inj H; go_enter Tryd.func89, Tryd.ntmps89
      go_wp2_with (first | ((with_reducible refine gate_dst (N := 2) rfl ?_); refine zbox 2 #[.int .i64 a0_0, .int .i64 a0_1, .int .i64 a0_2, .int .i64 a0_3, .string a0_4] 28 ?_; intro AI hg w8 hbox hb; have AA := zm (hbox); have AG := zge w hg zB; have AE := zge w hg zB; replace HB := zm (below_step zB hb); clear hb hbox hg) | ((with_reducible refine gate_dst (N := 3) rfl ?_); refine zbox 3 #[.int .i64 a1_0, .int .i64 a1_1, .int .i64 a1_2, .int .i64 a1_3, .string a1_4] 28 ?_; intro AJ hg w9 hbox hb; have AD := zm (hbox); have AH := zge w hg zB; have AF := zge w hg zB; replace HB := zm (below_step zB hb); have AB := zlt hg (zb AA); have AC := zgt hg (zb AA); replace AA := zy AA hb; clear hb hbox hg; have CX := AB.out; have Cd := AC.out; obtain ⟨AU, AV, AW, AX, AY, BZ, Ba, Bb, Bc, Bd⟩ := zc5 AA; obtain ⟨AZ, Aa, Ab, Ac, Ad, Be, Bf, Bg, Bh, Bi⟩ := zc5 AD))
      go_ret
      exact ⟨zE, zB⟩
     ·rw [if_neg c7] at H; have AS : (a0_4.toList == a1_4.toList) = false := beq_eq_false_iff_ne.mpr c7; have AT : (a0_4.toList != a1_4.toList) = true := bne_iff_ne.mpr c7; obtain rfl := Option.some.inj H; go_enter Tryd.func89, Tryd.ntmps89
      go_wp2_with (first | ((with_reducible refine gate_dst (N := 2) rfl ?_); refine zbox 2 #[.int .i64 a0_0, .int .i64 a0_1, .int .i64 a0_2, .int .i64 a0_3, .string a0_4] 28 ?_; intro AI hg Cj hbox hb; have AA := zm (hbox); have AG := zge w hg zB; have AE := zge w hg zB; replace HB := zm (below_step zB hb); clear hb hbox hg) | ((with_reducible refine gate_dst (N := 3) rfl ?_); refine zbox 3 #[.int .i64 a1_0, .int .i64 a1_1, .int .i64 a1_2, .int .i64 a1_3, .string a1_4] 28 ?_; intro AJ hg Ck hbox hb; have AD := zm (hbox); have AH := zge w hg zB; have AF := zge w hg zB; replace HB := zm (below_step zB hb); have AB := zlt hg (zb AA); have AC := zgt hg (zb AA); replace AA := zy AA hb; clear hb hbox hg; have CY := AB.out; have Ce := AC.out; obtain ⟨Ae, Af, Ag, Ah, Ai, Bj, Bk, Bl, Bm, Bn⟩ := zc5 AA; obtain ⟨Aj, Ak, Al, Am, An, Bo, Bp, Bq, Br, Bs⟩ := zc5 AD))
      go_ret
      exact ⟨zE, zB⟩
    ·rw [if_neg c6] at H; have AQ : (a0_3 == a1_3) = false := beq_eq_false_iff_ne.mpr c6; have AR : (a0_3 != a1_3) = true := bne_iff_ne.mpr c6; obtain rfl := Option.some.inj H; go_enter Tryd.func89, Tryd.ntmps89
     go_wp2_with (first | ((with_reducible refine gate_dst (N := 2) rfl ?_); refine zbox 2 #[.int .i64 a0_0, .int .i64 a0_1, .int .i64 a0_2, .int .i64 a0_3, .string a0_4] 28 ?_; intro AI hg Cl hbox hb; have AA := zm (hbox); have AG := zge w hg zB; have AE := zge w hg zB; replace HB := zm (below_step zB hb); clear hb hbox hg) | ((with_reducible refine gate_dst (N := 3) rfl ?_); refine zbox 3 #[.int .i64 a1_0, .int .i64 a1_1, .int .i64 a1_2, .int .i64 a1_3, .string a1_4] 28 ?_; intro AJ hg Cm hbox hb; have AD := zm (hbox); have AH := zge w hg zB; have AF := zge w hg zB; replace HB := zm (below_step zB hb); have AB := zlt hg (zb AA); have AC := zgt hg (zb AA); replace AA := zy AA hb; clear hb hbox hg; have CZ := AB.out; have Cf := AC.out; obtain ⟨Ao, Ap, Aq, Ar, As, Bt, Bu, Bv, Bw, Bx⟩ := zc5 AA; obtain ⟨At, Au, Av, Aw, Ax, By, Bz, C0, C1, C2⟩ := zc5 AD))
     go_ret
     exact ⟨zE, zB⟩
   ·rw [if_neg c5] at H; have AO : (a0_2 == a1_2) = false := beq_eq_false_iff_ne.mpr c5; have AP : (a0_2 != a1_2) = true := bne_iff_ne.mpr c5; obtain rfl := Option.some.inj H; go_enter Tryd.func89, Tryd.ntmps89
    go_wp2_with (first | ((with_reducible refine gate_dst (N := 2) rfl ?_); refine zbox 2 #[.int .i64 a0_0, .int .i64 a0_1, .int .i64 a0_2, .int .i64 a0_3, .string a0_4] 28 ?_; intro AI hg Cn hbox hb; have AA := zm (hbox); have AG := zge w hg zB; have AE := zge w hg zB; replace HB := zm (below_step zB hb); clear hb hbox hg) | ((with_reducible refine gate_dst (N := 3) rfl ?_); refine zbox 3 #[.int .i64 a1_0, .int .i64 a1_1, .int .i64 a1_2, .int .i64 a1_3, .string a1_4] 28 ?_; intro AJ hg Co hbox hb; have AD := zm (hbox); have AH := zge w hg zB; have AF := zge w hg zB; replace HB := zm (below_step zB hb); have AB := zlt hg (zb AA); have AC := zgt hg (zb AA); replace AA := zy AA hb; clear hb hbox hg; have Ca := AB.out; have Cg := AC.out; obtain ⟨Ay, Az, B0, B2, B3, C3, C4, C5, C6, C7⟩ := zc5 AA; obtain ⟨BA, BB, BC, BD, BE, C8, C9, CA, CB, CC⟩ := zc5 AD))
    go_ret
    exact ⟨zE, zB⟩
  ·rw [if_neg c4] at H; have AM : (a0_1 == a1_1) = false := beq_eq_false_iff_ne.mpr c4; have AN : (a0_1 != a1_1) = true := bne_iff_ne.mpr c4; obtain rfl := Option.some.inj H; go_enter Tryd.func89, Tryd.ntmps89
   go_wp2_with (first | ((with_reducible refine gate_dst (N := 2) rfl ?_); refine zbox 2 #[.int .i64 a0_0, .int .i64 a0_1, .int .i64 a0_2, .int .i64 a0_3, .string a0_4] 28 ?_; intro AI hg Cp hbox hb; have AA := zm (hbox); have AG := zge w hg zB; have AE := zge w hg zB; replace HB := zm (below_step zB hb); clear hb hbox hg) | ((with_reducible refine gate_dst (N := 3) rfl ?_); refine zbox 3 #[.int .i64 a1_0, .int .i64 a1_1, .int .i64 a1_2, .int .i64 a1_3, .string a1_4] 28 ?_; intro AJ hg Cq hbox hb; have AD := zm (hbox); have AH := zge w hg zB; have AF := zge w hg zB; replace HB := zm (below_step zB hb); have AB := zlt hg (zb AA); have AC := zgt hg (zb AA); replace AA := zy AA hb; clear hb hbox hg; have Cb := AB.out; have Ch := AC.out; obtain ⟨BF, BG, BH, BI, BJ, CD, CE, CF, CG, CH⟩ := zc5 AA; obtain ⟨BK, BL, BM, BN, BO, CI, CJ, CK, CL, CM⟩ := zc5 AD))
   go_ret
   exact ⟨zE, zB⟩
 ·rw [if_neg c3] at H; have AK : (a0_0 == a1_0) = false := beq_eq_false_iff_ne.mpr c3; have AL : (a0_0 != a1_0) = true := bne_iff_ne.mpr c3; obtain rfl := Option.some.inj H; go_enter Tryd.func89, Tryd.ntmps89
  go_wp2_with (first | ((with_reducible refine gate_dst (N := 2) rfl ?_); refine zbox 2 #[.int .i64 a0_0, .int .i64 a0_1, .int .i64 a0_2, .int .i64 a0_3, .string a0_4] 28 ?_; intro AI hg Cr hbox hb; have AA := zm (hbox); have AG := zge w hg zB; have AE := zge w hg zB; replace HB := zm (below_step zB hb); clear hb hbox hg) | ((with_reducible refine gate_dst (N := 3) rfl ?_); refine zbox 3 #[.int .i64 a1_0, .int .i64 a1_1, .int .i64 a1_2, .int .i64 a1_3, .string a1_4] 28 ?_; intro AJ hg Cs hbox hb; have AD := zm (hbox); have AH := zge w hg zB; have AF := zge w hg zB; replace HB := zm (below_step zB hb); have AB := zlt hg (zb AA); have AC := zgt hg (zb AA); replace AA := zy AA hb; clear hb hbox hg; have Cc := AB.out; have Ci := AC.out; obtain ⟨BP, BQ, BR, BS, BT, CN, CO, CP, CQ, CR⟩ := zc5 AA; obtain ⟨BU, BV, BW, BX, BY, CS, CT, CU, CV, CW⟩ := zc5 AD))
  go_ret
  exact ⟨zE, zB⟩

/-! ### laws_eqItem: function 65 -/
def laws_eqItem.f (a0_0 : Int) (a0_1 : Int) (a0_2 : Int) (a0_3 : Int) (a0_4 : Int) (a0_5 : ByteArray) (a1_0 : Int) (a1_1 : Int) (a1_2 : Int) (a1_3 : Int) (a1_4 : Int) (a1_5 : ByteArray) : Option (Bool) := if a0_0 = a1_0 then ((laws_eqEntry.f a0_1 a0_2 a0_3 a0_4 a0_5 a1_1 a1_2 a1_3 a1_4 a1_5).bind fun t269 => (if t269 = true then (some true) else (some false))) else (some false)
set_option maxHeartbeats 8000000 in
set_option maxRecDepth 100000 in
theorem laws_eqItem.calls (a0_0 : Int) (a0_1 : Int) (a0_2 : Int) (a0_3 : Int) (a0_4 : Int) (a0_5 : ByteArray) (a1_0 : Int) (a1_1 : Int) (a1_2 : Int) (a1_3 : Int) (a1_4 : Int) (a1_5 : ByteArray) (r : Bool) (w : World) (h : laws_eqItem.f a0_0 a0_1 a0_2 a0_3 a0_4 a0_5 a1_0 a1_1 a1_2 a1_3 a1_4 a1_5 = some r) :
  Calls Tryd.prog 65 #[.agg #[.int .i64 a0_0, .int .i64 a0_1, .int .i64 a0_2, .int .i64 a0_3, .int .i64 a0_4, .string a0_5], .agg #[.int .i64 a1_0, .int .i64 a1_1, .int .i64 a1_2, .int .i64 a1_3, .int .i64 a1_4, .string a1_5]] w fun e w' => e = .returned (.bool r) ∧ Below w.heap.size w w' := by
 have hu63 := Tryd.underlying63; have hu28 := Tryd.underlying28; have HB := zm (Below.refl w.heap.size w); have H : (if a0_0 = a1_0 then ((laws_eqEntry.f a0_1 a0_2 a0_3 a0_4 a0_5 a1_1 a1_2 a1_3 a1_4 a1_5).bind fun AE => (if AE = true then (some true) else (some false))) else (some false)) = some r := h; clear h
 by_cases c3 : a0_0 = a1_0
 ·rw [if_pos c3] at H; have AM : (a0_0 == a1_0) = true := beq_iff_eq.mpr c3; have AN : (a0_0 != a1_0) = false := bne_eq_false_iff_eq.mpr c3; clear c3; replace H := Option.bind_eq_some_iff.mp H; obtain ⟨AE, AL, H⟩ := H; (try dsimp only at H); have A4 := zm AL; clear AL
  by_cases c5 : AE = true
  ·subst c5; rw [if_pos rfl] at H; obtain rfl := Option.some.inj H; go_enter Tryd.func65, Tryd.ntmps65
   go_wp2_with (first | ((with_reducible refine gate_dst (N := 2) rfl ?_); refine zbox 2 #[.int .i64 a0_0, .int .i64 a0_1, .int .i64 a0_2, .int .i64 a0_3, .int .i64 a0_4, .string a0_5] 63 ?_; intro AJ hg w6 hbox hb; have AA := zm (hbox); have AH := zge w hg zB; have AF := zge w hg zB; replace HB := zm (below_step zB hb); clear hb hbox hg) | ((with_reducible refine gate_dst (N := 3) rfl ?_); refine zbox 3 #[.int .i64 a1_0, .int .i64 a1_1, .int .i64 a1_2, .int .i64 a1_3, .int .i64 a1_4, .string a1_5] 63 ?_; intro AK hg w7 hbox hb; have AD := zm (hbox); have AI := zge w hg zB; have AG := zge w hg zB; replace HB := zm (below_step zB hb); have AB := zlt hg (zb AA); have AC := zgt hg (zb AA); replace AA := zy AA hb; clear hb hbox hg; have Bj := AB.out; have Bk := AC.out; obtain ⟨BT, BU, BV, BW, BX, BY, BZ, Ba, Bb, Bc, Bd, Be⟩ := zc6 AA; obtain ⟨AO, AP, AQ, AR, AS, AT, As, At, Au, Av, Aw, Ax⟩ := zc6 AD) | ((with_reducible refine gate_callee (f := 89) rfl ?_); refine zg (some 14) #[.agg #[.int .i64 a0_1, .int .i64 a0_2, .int .i64 a0_3, .int .i64 a0_4, .string a0_5], .agg #[.int .i64 a1_1, .int .i64 a1_2, .int .i64 a1_3, .int .i64 a1_4, .string a1_5]] Tryd.func89 ?_; (with_reducible refine (laws_eqEntry.calls a0_1 a0_2 a0_3 a0_4 a0_5 a1_1 a1_2 a1_3 a1_4 a1_5 true _ A4.out).mono ?_); rintro e Bl ⟨rfl, hb⟩; refine ⟨_, rfl, ?_⟩; replace AA := zy AA hb; replace AD := zy AD hb; replace HB := zm (below_step zB hb); clear hb))
   go_ret
   exact ⟨zE, zB⟩
  ·replace c5 := Bool.eq_false_iff.mpr c5; subst c5; rw [zff] at H; obtain rfl := Option.some.inj H; go_enter Tryd.func65, Tryd.ntmps65
   go_wp2_with (first | ((with_reducible refine gate_dst (N := 2) rfl ?_); refine zbox 2 #[.int .i64 a0_0, .int .i64 a0_1, .int .i64 a0_2, .int .i64 a0_3, .int .i64 a0_4, .string a0_5] 63 ?_; intro AJ hg Bm hbox hb; have AA := zm (hbox); have AH := zge w hg zB; have AF := zge w hg zB; replace HB := zm (below_step zB hb); clear hb hbox hg) | ((with_reducible refine gate_dst (N := 3) rfl ?_); refine zbox 3 #[.int .i64 a1_0, .int .i64 a1_1, .int .i64 a1_2, .int .i64 a1_3, .int .i64 a1_4, .string a1_5] 63 ?_; intro AK hg Bn hbox hb; have AD := zm (hbox); have AI := zge w hg zB; have AG := zge w hg zB; replace HB := zm (below_step zB hb); have AB := zlt hg (zb AA); have AC := zgt hg (zb AA); replace AA := zy AA hb; clear hb hbox hg; have Bf := AB.out; have Bh := AC.out; obtain ⟨AU, AV, AW, AX, AY, AZ, Ay, Az, B0, B2, B3, BA⟩ := zc6 AA; obtain ⟨Aa, Ab, Ac, Ad, Ae, Af, BB, BC, BD, BE, BF, BG⟩ := zc6 AD) | ((with_reducible refine gate_callee (f := 89) rfl ?_); refine zg (some 14) #[.agg #[.int .i64 a0_1, .int .i64 a0_2, .int .i64 a0_3, .int .i64 a0_4, .string a0_5], .agg #[.int .i64 a1_1, .int .i64 a1_2, .int .i64 a1_3, .int .i64 a1_4, .string a1_5]] Tryd.func89 ?_; (with_reducible refine (laws_eqEntry.calls a0_1 a0_2 a0_3 a0_4 a0_5 a1_1 a1_2 a1_3 a1_4 a1_5 false _ A4.out).mono ?_); rintro e Bo ⟨rfl, hb⟩; refine ⟨_, rfl, ?_⟩; replace AA := zy AA hb; replace AD := zy AD hb; replace HB := zm (below_step zB hb); clear hb))
   go_ret
   exact ⟨zE, zB⟩
 ·rw [if_neg c3] at H; have AM : (a0_0 == a1_0) = false := beq_eq_false_iff_ne.mpr c3; have AN : (a0_0 != a1_0) = true := bne_iff_ne.mpr c3; obtain rfl := Option.some.inj H; go_enter Tryd.func65, Tryd.ntmps65
  go_wp2_with (first | ((with_reducible refine gate_dst (N := 2) rfl ?_); refine zbox 2 #[.int .i64 a0_0, .int .i64 a0_1, .int .i64 a0_2, .int .i64 a0_3, .int .i64 a0_4, .string a0_5] 63 ?_; intro AJ hg Bp hbox hb; have AA := zm (hbox); have AH := zge w hg zB; have AF := zge w hg zB; replace HB := zm (below_step zB hb); clear hb hbox hg) | ((with_reducible refine gate_dst (N := 3) rfl ?_); refine zbox 3 #[.int .i64 a1_0, .int .i64 a1_1, .int .i64 a1_2, .int .i64 a1_3, .int .i64 a1_4, .string a1_5] 63 ?_; intro AK hg Bq hbox hb; have AD := zm (hbox); have AI := zge w hg zB; have AG := zge w hg zB; replace HB := zm (below_step zB hb); have AB := zlt hg (zb AA); have AC := zgt hg (zb AA); replace AA := zy AA hb; clear hb hbox hg; have Bg := AB.out; have Bi := AC.out; obtain ⟨Ag, Ah, Ai, Aj, Ak, Al, BH, BI, BJ, BK, BL, BM⟩ := zc6 AA; obtain ⟨Am, An, Ao, Ap, Aq, Ar, BN, BO, BP, BQ, BR, BS⟩ := zc6 AD))
  go_ret
  exact ⟨zE, zB⟩

end Go.Proofs.YtomlglpmljngfaaDoor.P
