-- by a program of this session, for this seat
import Derived.Test.YtomlglpmljngfaaDoorZ
import Derived.Test.YtomlglpmljngfaaDoorP0
import Derived.Test.YtomlglpmljngfaaDoorPae
namespace Go.Proofs.YtomlglpmljngfaaDoor.P
open Go.RowKit Go.Proofs.YtomlglpmljngfaaDoorW.PrintWords Go.Proofs.YtomlglpmljngfaaDoorW.PrintLast Go.Proofs.YtomlglpmljngfaaDoorW.PrintMore Go.Proofs.YtomlglpmljngfaaDoor.Z
attribute [local go_sem] max2_int min2_int max_two min_two max_three min_three max_four min_four   -- for this text's walks alone
set_option linter.unusedVariables false
set_option linter.unusedSimpArgs false

/-! ### laws_eqItemS: function 45 -/
def laws_eqItemS.l0 : Nat → List (S63) → List (S63) → Int → Option (Bool)
 | 0, _, _, _ => none
 | k + 1, x0, x1, x5 => if x5 < (x0.length : Int) then (if 0 ≤ x5 then (if x5 < (x1.length : Int) then ((laws_eqItem.f ((rd_T63 x0 x5).f0) ((rd_T63 x0 x5).f1.f0) ((rd_T63 x0 x5).f1.f1) ((rd_T63 x0 x5).f1.f2) ((rd_T63 x0 x5).f1.f3) ((rd_T63 x0 x5).f1.f4) ((rd_T63 x1 x5).f0) ((rd_T63 x1 x5).f1.f0) ((rd_T63 x1 x5).f1.f1) ((rd_T63 x1 x5).f1.f2) ((rd_T63 x1 x5).f1.f3) ((rd_T63 x1 x5).f1.f4)).bind fun t272 => (if t272 = true then (laws_eqItemS.l0 k x0 x1 (wrap64 (x5 + 1))) else (some false))) else (none)) else (none)) else (some true)
def laws_eqItemS.f (k : Nat) (l0 : List (S63)) (l1 : List (S63)) : Option (Bool) := if (l0.length : Int) = (l1.length : Int) then (laws_eqItemS.l0 k l0 l1 0) else (some false)
theorem laws_eqItemS.mono_l : ∀ k, (∀ y0 y1 y2, LeO (laws_eqItemS.l0 k y0 y1 y2) (laws_eqItemS.l0 (k + 1) y0 y1 y2))
 | 0 => fun _ _ _ r h => by simp [laws_eqItemS.l0] at h
 | k + 1 => by
  have ih0 := laws_eqItemS.mono_l k
  ·intro y0 y1 y2
   unfold laws_eqItemS.l0
   repeat' first | (with_reducible first | exact LeO.refl _ | exact LeO.none _ | refine LeO.ite ?_ ?_ | refine LeO.bind ?_ (fun _ => ?_) | apply ih0) | apply ih0 | exact LeO.none _ | refine LeO.ite ?_ ?_ | refine LeO.bind ?_ (fun _ => ?_)
theorem laws_eqItemS.mono : ∀ a0 a1 k, LeO (laws_eqItemS.f k a0 a1) (laws_eqItemS.f (k + 1) a0 a1) := by
 intro a0 a1 k; have ih0 := laws_eqItemS.mono_l k
 unfold laws_eqItemS.f
 repeat' first | (with_reducible first | exact LeO.refl _ | exact LeO.none _ | refine LeO.ite ?_ ?_ | refine LeO.bind ?_ (fun _ => ?_) | apply ih0) | apply ih0 | exact LeO.none _ | refine LeO.ite ?_ ?_ | refine LeO.bind ?_ (fun _ => ?_)
def laws_eqItemS.T6 : Bool × List (List Nat × List Nat) := (true, [([], []), ([], []), ([0, 1], [0, 1]), ([2], [2]), ([], []), ([], []), ([4, 5], [4, 5]), ([6], [6]), ([3, 7], [3, 7]), ([8], [8])])
def laws_eqItemS.B6 : List Nat := [0, 0, 3, 7, 0, 0, 48, 112, 255, 511]
theorem laws_eqItemS.tab6 : rtab .any (opsOf Tryd.f45 6) = laws_eqItemS.T6 := by kernel_rfl
theorem laws_eqItemS.bits6 : waitsOk laws_eqItemS.T6.2 laws_eqItemS.B6 = true := by kernel_rfl
set_option maxHeartbeats 8000000 in
set_option maxRecDepth 100000 in
theorem laws_eqItemS.calls (k : Nat) (A0 : Option Addr) (c0 : Nat) (l0 : List (S63)) (A1 : Option Addr) (c1 : Nat) (l1 : List (S63)) (r : Bool) (w : World) (hr0 : Kd.C k63 w A0 l0.length l0) (hc0 : l0.length ≤ c0) (hr1 : Kd.C k63 w A1 l1.length l1) (hc1 : l1.length ≤ c1) (h : laws_eqItemS.f k l0 l1 = some r) :
  Calls Tryd.prog 45 #[.slice A0 l0.length c0, .slice A1 l1.length c1] w fun e w' => e = .returned (.bool r) ∧ Below w.heap.size w w' := by
 have hu63 := Tryd.underlying63; have HR0 := zm hr0; have AK := zm hc0; clear hr0 hc0; have HR1 := zm hr1; have AL := zm hc1; clear hr1 hc1; have HB := zm (Below.refl w.heap.size w); have H : (if (l0.length : Int) = (l1.length : Int) then (laws_eqItemS.l0 k l0 l1 0) else (some false)) = some r := h; clear h
 by_cases c3 : (l0.length : Int) = (l1.length : Int)
 ·rw [if_pos c3] at H; have AB : ((l0.length : Int) == (l1.length : Int)) = true := beq_iff_eq.mpr c3; have AC : ((l0.length : Int) != (l1.length : Int)) = false := bne_eq_false_iff_eq.mpr c3
  have AD : (l0.length == l1.length) = true := by first | simpa using c3 | (simp at c3 ⊢; omega)
  clear c3
  have H' := zm H
  clear H; go_enter Tryd.func45, Tryd.ntmps45
  go_wp2
  go_loopg [5] k (fun kq v5 w' => ∃ (AA : Int), v5 = .int .i64 AA ∧ Aside0 (laws_eqItemS.l0 kq l0 l1 AA = some r) ∧ Aside0 (kq ≤ k) ∧ Aside0 (Below w.heap.size w w'))
  case atStart => exact ⟨(0), zF, H', ⟨Nat.le_refl _⟩, ⟨zB⟩⟩
  case round =>
   clear H'; (try clear c1); (try clear c3); (try clear AB); (try clear AC); (try clear AD); obtain ⟨AA, rfl, HA, AF, HB⟩ := hrel
   cases gk with
   | zero => exact absurd HA.out (by simp [laws_eqItemS.l0])
   | succ k1 =>
    have H := HA.out; clear HA; simp only [laws_eqItemS.l0] at H
    by_cases c4 : AA < (l0.length : Int)
    ·rw [if_pos c4] at H; have AG : decide (AA < (l0.length : Int)) = true := decide_eq_true c4; clear c4
     by_cases c5 : 0 ≤ AA
     ·rw [if_pos c5] at H; have AI : decide (0 ≤ AA) = true := decide_eq_true c5; clear c5
      by_cases c6 : AA < (l1.length : Int)
      ·rw [if_pos c6] at H; have AJ : decide (AA < (l1.length : Int)) = true := decide_eq_true c6; clear c6; replace H := Option.bind_eq_some_iff.mp H; obtain ⟨AH, AE, H⟩ := H; (try dsimp only at H); have A7 := zm AE; clear AE
       by_cases c8 : AH = true
       ·subst c8; rw [if_pos rfl] at H
        have H' := zm H
        clear H
        try go_wp2
        replace HB := zm (below_drew1 HB.out); have p270 : 0 ≤ (AA : Int) := zd; have q270 : AA < (l0.length : Int) := zd; obtain ⟨ad270, e270, hx270_0, hx270_1, hx270_2, hx270_3, hx270_4, hx270_5⟩ := at_T63 HR0.out AA p270 q270; have hw270_5 := hx270_5; have hw270_4 := hx270_4; have hw270_3 := hx270_3; have hw270_2 := hx270_2; have hw270_1 := hx270_1; have hw270_0 := hx270_0; cases e270; replace hx270_0 := zx HB hx270_0; replace hx270_1 := zx HB hx270_1; replace hx270_2 := zx HB hx270_2; replace hx270_3 := zx HB hx270_3; replace hx270_4 := zx HB hx270_4; replace hx270_5 := zx HB hx270_5; replace p270 := eq_true p270; replace q270 := eq_true q270; have p271 : 0 ≤ (AA : Int) := zd; have q271 : AA < (l1.length : Int) := zd; obtain ⟨ad271, e271, hx271_0, hx271_1, hx271_2, hx271_3, hx271_4, hx271_5⟩ := at_T63 HR1.out AA p271 q271; have hw271_5 := hx271_5; have hw271_4 := hx271_4; have hw271_3 := hx271_3; have hw271_2 := hx271_2; have hw271_1 := hx271_1; have hw271_0 := hx271_0; cases e271; replace hx271_0 := zx HB hx271_0; replace hx271_1 := zx HB hx271_1; replace hx271_2 := zx HB hx271_2; replace hx271_3 := zx HB hx271_3; replace hx271_4 := zx HB hx271_4; replace hx271_5 := zx HB hx271_5; replace p271 := eq_true p271; replace q271 := eq_true q271
        refine start_ (n := 10) (S := fun w' => w'.cell? (ad270.add ((AA).toNat * 6)) = some (.int .i64 ((rd_T63 l0 AA).f0)) ∧ w'.cell? ⟨(ad270.add ((AA).toNat * 6)).block, (ad270.add ((AA).toNat * 6)).off + 1, none⟩ = some (.int .i64 ((rd_T63 l0 AA).f1.f0)) ∧ w'.cell? ⟨(ad270.add ((AA).toNat * 6)).block, (ad270.add ((AA).toNat * 6)).off + 2, none⟩ = some (.int .i64 ((rd_T63 l0 AA).f1.f1)) ∧ w'.cell? ⟨(ad270.add ((AA).toNat * 6)).block, (ad270.add ((AA).toNat * 6)).off + 3, none⟩ = some (.int .i64 ((rd_T63 l0 AA).f1.f2)) ∧ w'.cell? ⟨(ad270.add ((AA).toNat * 6)).block, (ad270.add ((AA).toNat * 6)).off + 4, none⟩ = some (.int .i64 ((rd_T63 l0 AA).f1.f3)) ∧ w'.cell? ⟨(ad270.add ((AA).toNat * 6)).block, (ad270.add ((AA).toNat * 6)).off + 5, none⟩ = some (.string ((rd_T63 l0 AA).f1.f4)) ∧ w'.cell? (ad271.add ((AA).toNat * 6)) = some (.int .i64 ((rd_T63 l1 AA).f0)) ∧ w'.cell? ⟨(ad271.add ((AA).toNat * 6)).block, (ad271.add ((AA).toNat * 6)).off + 1, none⟩ = some (.int .i64 ((rd_T63 l1 AA).f1.f0)) ∧ w'.cell? ⟨(ad271.add ((AA).toNat * 6)).block, (ad271.add ((AA).toNat * 6)).off + 2, none⟩ = some (.int .i64 ((rd_T63 l1 AA).f1.f1)) ∧ w'.cell? ⟨(ad271.add ((AA).toNat * 6)).block, (ad271.add ((AA).toNat * 6)).off + 3, none⟩ = some (.int .i64 ((rd_T63 l1 AA).f1.f2)) ∧ w'.cell? ⟨(ad271.add ((AA).toNat * 6)).block, (ad271.add ((AA).toNat * 6)).off + 4, none⟩ = some (.int .i64 ((rd_T63 l1 AA).f1.f3)) ∧ w'.cell? ⟨(ad271.add ((AA).toNat * 6)).block, (ad271.add ((AA).toNat * 6)).off + 5, none⟩ = some (.string ((rd_T63 l1 AA).f1.f4))) (ds := []) (zl 10 0) (by kernel_rfl) rfl rfl zS (fun hHeld => ?_); refine with_tabW laws_eqItemS.tab6 laws_eqItemS.bits6 (fun HT_ HW_ => ?_)
        generalize wr.drew = w9 at HB hx270_0 hx270_1 hx270_2 hx270_3 hx270_4 hx270_5 hx271_0 hx271_1 hx271_2 hx271_3 hx271_4 hx271_5 hHeld ⊢
        refine zu 0 17 10 1 ?_
        refine zu 1 18 10 3 ?_
        refine zu 2 19 10 7 ?_
        refine zu 4 21 10 23 ?_
        refine zu 5 22 10 55 ?_
        refine zu 6 23 10 119 ?_
        refine zv 3 20 10 127 ?_
        refine zv 7 24 10 255 ?_
        refine zo 8 (some 25) (zl 10 511) (fun K hK => ?_); refine zgo #[.agg #[.int .i64 ((rd_T63 l0 AA).f0), .int .i64 ((rd_T63 l0 AA).f1.f0), .int .i64 ((rd_T63 l0 AA).f1.f1), .int .i64 ((rd_T63 l0 AA).f1.f2), .int .i64 ((rd_T63 l0 AA).f1.f3), .string ((rd_T63 l0 AA).f1.f4)], .agg #[.int .i64 ((rd_T63 l1 AA).f0), .int .i64 ((rd_T63 l1 AA).f1.f0), .int .i64 ((rd_T63 l1 AA).f1.f1), .int .i64 ((rd_T63 l1 AA).f1.f2), .int .i64 ((rd_T63 l1 AA).f1.f3), .string ((rd_T63 l1 AA).f1.f4)]] Tryd.func65 ?_; (with_reducible refine (laws_eqItem.calls ((rd_T63 l0 AA).f0) ((rd_T63 l0 AA).f1.f0) ((rd_T63 l0 AA).f1.f1) ((rd_T63 l0 AA).f1.f2) ((rd_T63 l0 AA).f1.f3) ((rd_T63 l0 AA).f1.f4) ((rd_T63 l1 AA).f0) ((rd_T63 l1 AA).f1.f0) ((rd_T63 l1 AA).f1.f1) ((rd_T63 l1 AA).f1.f2) ((rd_T63 l1 AA).f1.f3) ((rd_T63 l1 AA).f1.f4) true _ A7.out).mono ?_); rintro e AM ⟨rfl, hb⟩; refine ⟨_, rfl, ?_⟩; replace HB := zm (below_step zB hb); (try clear hb); refine hK.out _ _ zS (fun hHeld => ?_); clear hK K; refine zn ?_
        refine zu 9 26 10 1023 ?_
        refine done_ (done_of HT_.out (by kernel_rfl)) ?_
        try go_wp2
        go_roundg k1
        case measure => have := AF.out; omega
        case rel => exact ⟨(wrap64 (AA + 1)), zF, H', ⟨by have := AF.out; omega⟩, ⟨zB⟩⟩
       ·replace c8 := Bool.eq_false_iff.mpr c8; subst c8; rw [zff] at H; obtain rfl := Option.some.inj H
        try go_wp2
        replace HB := zm (below_drew1 HB.out); have p270 : 0 ≤ (AA : Int) := zd; have q270 : AA < (l0.length : Int) := zd; obtain ⟨ad270, e270, hx270_0, hx270_1, hx270_2, hx270_3, hx270_4, hx270_5⟩ := at_T63 HR0.out AA p270 q270; have hw270_5 := hx270_5; have hw270_4 := hx270_4; have hw270_3 := hx270_3; have hw270_2 := hx270_2; have hw270_1 := hx270_1; have hw270_0 := hx270_0; cases e270; replace hx270_0 := zx HB hx270_0; replace hx270_1 := zx HB hx270_1; replace hx270_2 := zx HB hx270_2; replace hx270_3 := zx HB hx270_3; replace hx270_4 := zx HB hx270_4; replace hx270_5 := zx HB hx270_5; replace p270 := eq_true p270; replace q270 := eq_true q270; have p271 : 0 ≤ (AA : Int) := zd; have q271 : AA < (l1.length : Int) := zd; obtain ⟨ad271, e271, hx271_0, hx271_1, hx271_2, hx271_3, hx271_4, hx271_5⟩ := at_T63 HR1.out AA p271 q271; have hw271_5 := hx271_5; have hw271_4 := hx271_4; have hw271_3 := hx271_3; have hw271_2 := hx271_2; have hw271_1 := hx271_1; have hw271_0 := hx271_0; cases e271; replace hx271_0 := zx HB hx271_0; replace hx271_1 := zx HB hx271_1; replace hx271_2 := zx HB hx271_2; replace hx271_3 := zx HB hx271_3; replace hx271_4 := zx HB hx271_4; replace hx271_5 := zx HB hx271_5; replace p271 := eq_true p271; replace q271 := eq_true q271
        refine start_ (n := 10) (S := fun w' => w'.cell? (ad270.add ((AA).toNat * 6)) = some (.int .i64 ((rd_T63 l0 AA).f0)) ∧ w'.cell? ⟨(ad270.add ((AA).toNat * 6)).block, (ad270.add ((AA).toNat * 6)).off + 1, none⟩ = some (.int .i64 ((rd_T63 l0 AA).f1.f0)) ∧ w'.cell? ⟨(ad270.add ((AA).toNat * 6)).block, (ad270.add ((AA).toNat * 6)).off + 2, none⟩ = some (.int .i64 ((rd_T63 l0 AA).f1.f1)) ∧ w'.cell? ⟨(ad270.add ((AA).toNat * 6)).block, (ad270.add ((AA).toNat * 6)).off + 3, none⟩ = some (.int .i64 ((rd_T63 l0 AA).f1.f2)) ∧ w'.cell? ⟨(ad270.add ((AA).toNat * 6)).block, (ad270.add ((AA).toNat * 6)).off + 4, none⟩ = some (.int .i64 ((rd_T63 l0 AA).f1.f3)) ∧ w'.cell? ⟨(ad270.add ((AA).toNat * 6)).block, (ad270.add ((AA).toNat * 6)).off + 5, none⟩ = some (.string ((rd_T63 l0 AA).f1.f4)) ∧ w'.cell? (ad271.add ((AA).toNat * 6)) = some (.int .i64 ((rd_T63 l1 AA).f0)) ∧ w'.cell? ⟨(ad271.add ((AA).toNat * 6)).block, (ad271.add ((AA).toNat * 6)).off + 1, none⟩ = some (.int .i64 ((rd_T63 l1 AA).f1.f0)) ∧ w'.cell? ⟨(ad271.add ((AA).toNat * 6)).block, (ad271.add ((AA).toNat * 6)).off + 2, none⟩ = some (.int .i64 ((rd_T63 l1 AA).f1.f1)) ∧ w'.cell? ⟨(ad271.add ((AA).toNat * 6)).block, (ad271.add ((AA).toNat * 6)).off + 3, none⟩ = some (.int .i64 ((rd_T63 l1 AA).f1.f2)) ∧ w'.cell? ⟨(ad271.add ((AA).toNat * 6)).block, (ad271.add ((AA).toNat * 6)).off + 4, none⟩ = some (.int .i64 ((rd_T63 l1 AA).f1.f3)) ∧ w'.cell? ⟨(ad271.add ((AA).toNat * 6)).block, (ad271.add ((AA).toNat * 6)).off + 5, none⟩ = some (.string ((rd_T63 l1 AA).f1.f4))) (ds := []) (zl 10 0) (by kernel_rfl) rfl rfl zS (fun hHeld => ?_); refine with_tabW laws_eqItemS.tab6 laws_eqItemS.bits6 (fun HT_ HW_ => ?_)
        generalize wr.drew = AN at HB hx270_0 hx270_1 hx270_2 hx270_3 hx270_4 hx270_5 hx271_0 hx271_1 hx271_2 hx271_3 hx271_4 hx271_5 hHeld ⊢
        refine zu 0 17 10 1 ?_
        refine zu 1 18 10 3 ?_
        refine zu 2 19 10 7 ?_
        refine zu 4 21 10 23 ?_
        refine zu 5 22 10 55 ?_
        refine zu 6 23 10 119 ?_
        refine zv 3 20 10 127 ?_
        refine zv 7 24 10 255 ?_
        refine zo 8 (some 25) (zl 10 511) (fun K hK => ?_); refine zgo #[.agg #[.int .i64 ((rd_T63 l0 AA).f0), .int .i64 ((rd_T63 l0 AA).f1.f0), .int .i64 ((rd_T63 l0 AA).f1.f1), .int .i64 ((rd_T63 l0 AA).f1.f2), .int .i64 ((rd_T63 l0 AA).f1.f3), .string ((rd_T63 l0 AA).f1.f4)], .agg #[.int .i64 ((rd_T63 l1 AA).f0), .int .i64 ((rd_T63 l1 AA).f1.f0), .int .i64 ((rd_T63 l1 AA).f1.f1), .int .i64 ((rd_T63 l1 AA).f1.f2), .int .i64 ((rd_T63 l1 AA).f1.f3), .string ((rd_T63 l1 AA).f1.f4)]] Tryd.func65 ?_; (with_reducible refine (laws_eqItem.calls ((rd_T63 l0 AA).f0) ((rd_T63 l0 AA).f1.f0) ((rd_T63 l0 AA).f1.f1) ((rd_T63 l0 AA).f1.f2) ((rd_T63 l0 AA).f1.f3) ((rd_T63 l0 AA).f1.f4) ((rd_T63 l1 AA).f0) ((rd_T63 l1 AA).f1.f0) ((rd_T63 l1 AA).f1.f1) ((rd_T63 l1 AA).f1.f2) ((rd_T63 l1 AA).f1.f3) ((rd_T63 l1 AA).f1.f4) false _ A7.out).mono ?_); rintro e AO ⟨rfl, hb⟩; refine ⟨_, rfl, ?_⟩; replace HB := zm (below_step zB hb); (try clear hb); refine hK.out _ _ zS (fun hHeld => ?_); clear hK K; refine zn ?_
        refine zu 9 26 10 1023 ?_
        refine done_ (done_of HT_.out (by kernel_rfl)) ?_
        try go_wp2
        go_ret
        exact ⟨zE, zB⟩
      ·rw [if_neg c6] at H
       exact absurd H (by simp)
     ·rw [if_neg c5] at H
      exact absurd H (by simp)
    ·rw [if_neg c4] at H; have AG : decide (AA < (l0.length : Int)) = false := decide_eq_false c4; clear c4; obtain rfl := Option.some.inj H
     go_wp2
     go_ret
     exact ⟨zE, zB⟩
 ·rw [if_neg c3] at H; have AB : ((l0.length : Int) == (l1.length : Int)) = false := beq_eq_false_iff_ne.mpr c3; have AC : ((l0.length : Int) != (l1.length : Int)) = true := bne_iff_ne.mpr c3
  have AD : (l0.length == l1.length) = false := by first | simpa using c3 | (simp at c3 ⊢; omega)
  obtain rfl := Option.some.inj H; go_enter Tryd.func45, Tryd.ntmps45
  go_wp2
  go_ret
  exact ⟨zE, zB⟩

/-! ### laws_eqFloor: function 66 -/
def laws_eqFloor.f (a0_0 : Int) (a0_1 : Int) (a1_0 : Int) (a1_1 : Int) : Option (Bool) := if a0_0 = a1_0 then (if a0_1 = a1_1 then (some true) else (some false)) else (some false)
set_option maxHeartbeats 8000000 in
set_option maxRecDepth 100000 in
theorem laws_eqFloor.calls (a0_0 : Int) (a0_1 : Int) (a1_0 : Int) (a1_1 : Int) (r : Bool) (w : World) (h : laws_eqFloor.f a0_0 a0_1 a1_0 a1_1 = some r) :
  Calls Tryd.prog 66 #[.agg #[.int .i64 a0_0, .int .i64 a0_1], .agg #[.int .i64 a1_0, .int .i64 a1_1]] w fun e w' => e = .returned (.bool r) ∧ Below w.heap.size w w' := by
 have hu68 := Tryd.underlying68; have HB := zm (Below.refl w.heap.size w); have H : (if a0_0 = a1_0 then (if a0_1 = a1_1 then (some true) else (some false)) else (some false)) = some r := h; clear h
 by_cases c3 : a0_0 = a1_0
 ·rw [if_pos c3] at H; have AK : (a0_0 == a1_0) = true := beq_iff_eq.mpr c3; have AL : (a0_0 != a1_0) = false := bne_eq_false_iff_eq.mpr c3; clear c3
  by_cases c4 : a0_1 = a1_1
  ·rw [if_pos c4] at H; have AM : (a0_1 == a1_1) = true := beq_iff_eq.mpr c4; have AN : (a0_1 != a1_1) = false := bne_eq_false_iff_eq.mpr c4; clear c4; obtain rfl := Option.some.inj H; go_enter Tryd.func66, Tryd.ntmps66
   go_wp2_with (first | ((with_reducible refine gate_dst (N := 2) rfl ?_); refine zbox 2 #[.int .i64 a0_0, .int .i64 a0_1] 68 ?_; intro AI hg w5 hbox hb; have AA := zm (hbox); have AG := zge w hg zB; have AE := zge w hg zB; replace HB := zm (below_step zB hb); clear hb hbox hg) | ((with_reducible refine gate_dst (N := 3) rfl ?_); refine zbox 3 #[.int .i64 a1_0, .int .i64 a1_1] 68 ?_; intro AJ hg w6 hbox hb; have AD := zm (hbox); have AH := zge w hg zB; have AF := zge w hg zB; replace HB := zm (below_step zB hb); have AB := zlt hg (zb AA); have AC := zgt hg (zb AA); replace AA := zy AA hb; clear hb hbox hg; have Aq := AB.out; have Ar := AC.out; obtain ⟨Ae, Af, Ai, Aj⟩ := zc2 AA; obtain ⟨Ag, Ah, Ak, Al⟩ := zc2 AD))
   go_ret
   exact ⟨zE, zB⟩
  ·rw [if_neg c4] at H; have AM : (a0_1 == a1_1) = false := beq_eq_false_iff_ne.mpr c4; have AN : (a0_1 != a1_1) = true := bne_iff_ne.mpr c4; obtain rfl := Option.some.inj H; go_enter Tryd.func66, Tryd.ntmps66
   go_wp2_with (first | ((with_reducible refine gate_dst (N := 2) rfl ?_); refine zbox 2 #[.int .i64 a0_0, .int .i64 a0_1] 68 ?_; intro AI hg As hbox hb; have AA := zm (hbox); have AG := zge w hg zB; have AE := zge w hg zB; replace HB := zm (below_step zB hb); clear hb hbox hg) | ((with_reducible refine gate_dst (N := 3) rfl ?_); refine zbox 3 #[.int .i64 a1_0, .int .i64 a1_1] 68 ?_; intro AJ hg At hbox hb; have AD := zm (hbox); have AH := zge w hg zB; have AF := zge w hg zB; replace HB := zm (below_step zB hb); have AB := zlt hg (zb AA); have AC := zgt hg (zb AA); replace AA := zy AA hb; clear hb hbox hg; have Am := AB.out; have Ao := AC.out; obtain ⟨AO, AP, AW, AX⟩ := zc2 AA; obtain ⟨AQ, AR, AY, AZ⟩ := zc2 AD))
   go_ret
   exact ⟨zE, zB⟩
 ·rw [if_neg c3] at H; have AK : (a0_0 == a1_0) = false := beq_eq_false_iff_ne.mpr c3; have AL : (a0_0 != a1_0) = true := bne_iff_ne.mpr c3; obtain rfl := Option.some.inj H; go_enter Tryd.func66, Tryd.ntmps66
  go_wp2_with (first | ((with_reducible refine gate_dst (N := 2) rfl ?_); refine zbox 2 #[.int .i64 a0_0, .int .i64 a0_1] 68 ?_; intro AI hg Au hbox hb; have AA := zm (hbox); have AG := zge w hg zB; have AE := zge w hg zB; replace HB := zm (below_step zB hb); clear hb hbox hg) | ((with_reducible refine gate_dst (N := 3) rfl ?_); refine zbox 3 #[.int .i64 a1_0, .int .i64 a1_1] 68 ?_; intro AJ hg Av hbox hb; have AD := zm (hbox); have AH := zge w hg zB; have AF := zge w hg zB; replace HB := zm (below_step zB hb); have AB := zlt hg (zb AA); have AC := zgt hg (zb AA); replace AA := zy AA hb; clear hb hbox hg; have An := AB.out; have Ap := AC.out; obtain ⟨AS, AT, Aa, Ab⟩ := zc2 AA; obtain ⟨AU, AV, Ac, Ad⟩ := zc2 AD))
  go_ret
  exact ⟨zE, zB⟩

/-! ### laws_eqFloorS: function 46 -/
def laws_eqFloorS.l0 : Nat → List (S68) → List (S68) → Int → Option (Bool)
 | 0, _, _, _ => none
 | k + 1, x0, x1, x5 => if x5 < (x0.length : Int) then (if 0 ≤ x5 then (if x5 < (x1.length : Int) then ((laws_eqFloor.f ((rd_T68 x0 x5).f0) ((rd_T68 x0 x5).f1) ((rd_T68 x1 x5).f0) ((rd_T68 x1 x5).f1)).bind fun t277 => (if t277 = true then (laws_eqFloorS.l0 k x0 x1 (wrap64 (x5 + 1))) else (some false))) else (none)) else (none)) else (some true)
def laws_eqFloorS.f (k : Nat) (l0 : List (S68)) (l1 : List (S68)) : Option (Bool) := if (l0.length : Int) = (l1.length : Int) then (laws_eqFloorS.l0 k l0 l1 0) else (some false)
theorem laws_eqFloorS.mono_l : ∀ k, (∀ y0 y1 y2, LeO (laws_eqFloorS.l0 k y0 y1 y2) (laws_eqFloorS.l0 (k + 1) y0 y1 y2))
 | 0 => fun _ _ _ r h => by simp [laws_eqFloorS.l0] at h
 | k + 1 => by
  have ih0 := laws_eqFloorS.mono_l k
  ·intro y0 y1 y2
   unfold laws_eqFloorS.l0
   repeat' first | (with_reducible first | exact LeO.refl _ | exact LeO.none _ | refine LeO.ite ?_ ?_ | refine LeO.bind ?_ (fun _ => ?_) | apply ih0) | apply ih0 | exact LeO.none _ | refine LeO.ite ?_ ?_ | refine LeO.bind ?_ (fun _ => ?_)
theorem laws_eqFloorS.mono : ∀ a0 a1 k, LeO (laws_eqFloorS.f k a0 a1) (laws_eqFloorS.f (k + 1) a0 a1) := by
 intro a0 a1 k; have ih0 := laws_eqFloorS.mono_l k
 unfold laws_eqFloorS.f
 repeat' first | (with_reducible first | exact LeO.refl _ | exact LeO.none _ | refine LeO.ite ?_ ?_ | refine LeO.bind ?_ (fun _ => ?_) | apply ih0) | apply ih0 | exact LeO.none _ | refine LeO.ite ?_ ?_ | refine LeO.bind ?_ (fun _ => ?_)
def laws_eqFloorS.T6 : Bool × List (List Nat × List Nat) := (true, [([], []), ([], []), ([0, 1], [0, 1]), ([2], [2]), ([], []), ([], []), ([4, 5], [4, 5]), ([6], [6]), ([3, 7], [3, 7]), ([8], [8])])
def laws_eqFloorS.B6 : List Nat := [0, 0, 3, 7, 0, 0, 48, 112, 255, 511]
theorem laws_eqFloorS.tab6 : rtab .any (opsOf Tryd.f46 6) = laws_eqFloorS.T6 := by kernel_rfl
theorem laws_eqFloorS.bits6 : waitsOk laws_eqFloorS.T6.2 laws_eqFloorS.B6 = true := by kernel_rfl
set_option maxHeartbeats 8000000 in
set_option maxRecDepth 100000 in
theorem laws_eqFloorS.calls (k : Nat) (A0 : Option Addr) (c0 : Nat) (l0 : List (S68)) (A1 : Option Addr) (c1 : Nat) (l1 : List (S68)) (r : Bool) (w : World) (hr0 : Kd.C k68 w A0 l0.length l0) (hc0 : l0.length ≤ c0) (hr1 : Kd.C k68 w A1 l1.length l1) (hc1 : l1.length ≤ c1) (h : laws_eqFloorS.f k l0 l1 = some r) :
  Calls Tryd.prog 46 #[.slice A0 l0.length c0, .slice A1 l1.length c1] w fun e w' => e = .returned (.bool r) ∧ Below w.heap.size w w' := by
 have hu68 := Tryd.underlying68; have HR0 := zm hr0; have AK := zm hc0; clear hr0 hc0; have HR1 := zm hr1; have AL := zm hc1; clear hr1 hc1; have HB := zm (Below.refl w.heap.size w); have H : (if (l0.length : Int) = (l1.length : Int) then (laws_eqFloorS.l0 k l0 l1 0) else (some false)) = some r := h; clear h
 by_cases c3 : (l0.length : Int) = (l1.length : Int)
 ·rw [if_pos c3] at H; have AB : ((l0.length : Int) == (l1.length : Int)) = true := beq_iff_eq.mpr c3; have AC : ((l0.length : Int) != (l1.length : Int)) = false := bne_eq_false_iff_eq.mpr c3
  have AD : (l0.length == l1.length) = true := by first | simpa using c3 | (simp at c3 ⊢; omega)
  clear c3
  have H' := zm H
  clear H; go_enter Tryd.func46, Tryd.ntmps46
  go_wp2
  go_loopg [5] k (fun kq v5 w' => ∃ (AA : Int), v5 = .int .i64 AA ∧ Aside0 (laws_eqFloorS.l0 kq l0 l1 AA = some r) ∧ Aside0 (kq ≤ k) ∧ Aside0 (Below w.heap.size w w'))
  case atStart => exact ⟨(0), zF, H', ⟨Nat.le_refl _⟩, ⟨zB⟩⟩
  case round =>
   clear H'; (try clear c1); (try clear c3); (try clear AB); (try clear AC); (try clear AD); obtain ⟨AA, rfl, HA, AF, HB⟩ := hrel
   cases gk with
   | zero => exact absurd HA.out (by simp [laws_eqFloorS.l0])
   | succ k1 =>
    have H := HA.out; clear HA; simp only [laws_eqFloorS.l0] at H
    by_cases c4 : AA < (l0.length : Int)
    ·rw [if_pos c4] at H; have AG : decide (AA < (l0.length : Int)) = true := decide_eq_true c4; clear c4
     by_cases c5 : 0 ≤ AA
     ·rw [if_pos c5] at H; have AI : decide (0 ≤ AA) = true := decide_eq_true c5; clear c5
      by_cases c6 : AA < (l1.length : Int)
      ·rw [if_pos c6] at H; have AJ : decide (AA < (l1.length : Int)) = true := decide_eq_true c6; clear c6; replace H := Option.bind_eq_some_iff.mp H; obtain ⟨AH, AE, H⟩ := H; (try dsimp only at H); have A7 := zm AE; clear AE
       by_cases c8 : AH = true
       ·subst c8; rw [if_pos rfl] at H
        have H' := zm H
        clear H
        try go_wp2
        replace HB := zm (below_drew1 HB.out); have p275 : 0 ≤ (AA : Int) := zd; have q275 : AA < (l0.length : Int) := zd; obtain ⟨ad275, e275, hx275_0, hx275_1⟩ := at_T68 HR0.out AA p275 q275; have hw275_1 := hx275_1; have hw275_0 := hx275_0; cases e275; replace hx275_0 := zx HB hx275_0; replace hx275_1 := zx HB hx275_1; replace p275 := eq_true p275; replace q275 := eq_true q275; have p276 : 0 ≤ (AA : Int) := zd; have q276 : AA < (l1.length : Int) := zd; obtain ⟨ad276, e276, hx276_0, hx276_1⟩ := at_T68 HR1.out AA p276 q276; have hw276_1 := hx276_1; have hw276_0 := hx276_0; cases e276; replace hx276_0 := zx HB hx276_0; replace hx276_1 := zx HB hx276_1; replace p276 := eq_true p276; replace q276 := eq_true q276
        refine start_ (n := 10) (S := fun w' => w'.cell? (ad275.add ((AA).toNat * 2)) = some (.int .i64 ((rd_T68 l0 AA).f0)) ∧ w'.cell? ⟨(ad275.add ((AA).toNat * 2)).block, (ad275.add ((AA).toNat * 2)).off + 1, none⟩ = some (.int .i64 ((rd_T68 l0 AA).f1)) ∧ w'.cell? (ad276.add ((AA).toNat * 2)) = some (.int .i64 ((rd_T68 l1 AA).f0)) ∧ w'.cell? ⟨(ad276.add ((AA).toNat * 2)).block, (ad276.add ((AA).toNat * 2)).off + 1, none⟩ = some (.int .i64 ((rd_T68 l1 AA).f1))) (ds := []) (zl 10 0) (by kernel_rfl) rfl rfl zS (fun hHeld => ?_); refine with_tabW laws_eqFloorS.tab6 laws_eqFloorS.bits6 (fun HT_ HW_ => ?_)
        generalize wr.drew = w9 at HB hx275_0 hx275_1 hx276_0 hx276_1 hHeld ⊢
        refine zu 0 17 10 1 ?_
        refine zu 1 18 10 3 ?_
        refine zu 2 19 10 7 ?_
        refine zu 4 21 10 23 ?_
        refine zu 5 22 10 55 ?_
        refine zu 6 23 10 119 ?_
        refine zv 3 20 10 127 ?_
        refine zv 7 24 10 255 ?_
        refine zo 8 (some 25) (zl 10 511) (fun K hK => ?_); refine zgo #[.agg #[.int .i64 ((rd_T68 l0 AA).f0), .int .i64 ((rd_T68 l0 AA).f1)], .agg #[.int .i64 ((rd_T68 l1 AA).f0), .int .i64 ((rd_T68 l1 AA).f1)]] Tryd.func66 ?_; (with_reducible refine (laws_eqFloor.calls ((rd_T68 l0 AA).f0) ((rd_T68 l0 AA).f1) ((rd_T68 l1 AA).f0) ((rd_T68 l1 AA).f1) true _ A7.out).mono ?_); rintro e AM ⟨rfl, hb⟩; refine ⟨_, rfl, ?_⟩; replace HB := zm (below_step zB hb); (try clear hb); refine hK.out _ _ zS (fun hHeld => ?_); clear hK K; refine zn ?_
        refine zu 9 26 10 1023 ?_
        refine done_ (done_of HT_.out (by kernel_rfl)) ?_
        try go_wp2
        go_roundg k1
        case measure => have := AF.out; omega
        case rel => exact ⟨(wrap64 (AA + 1)), zF, H', ⟨by have := AF.out; omega⟩, ⟨zB⟩⟩
       ·replace c8 := Bool.eq_false_iff.mpr c8; subst c8; rw [zff] at H; obtain rfl := Option.some.inj H
        try go_wp2
        replace HB := zm (below_drew1 HB.out); have p275 : 0 ≤ (AA : Int) := zd; have q275 : AA < (l0.length : Int) := zd; obtain ⟨ad275, e275, hx275_0, hx275_1⟩ := at_T68 HR0.out AA p275 q275; have hw275_1 := hx275_1; have hw275_0 := hx275_0; cases e275; replace hx275_0 := zx HB hx275_0; replace hx275_1 := zx HB hx275_1; replace p275 := eq_true p275; replace q275 := eq_true q275; have p276 : 0 ≤ (AA : Int) := zd; have q276 : AA < (l1.length : Int) := zd; obtain ⟨ad276, e276, hx276_0, hx276_1⟩ := at_T68 HR1.out AA p276 q276; have hw276_1 := hx276_1; have hw276_0 := hx276_0; cases e276; replace hx276_0 := zx HB hx276_0; replace hx276_1 := zx HB hx276_1; replace p276 := eq_true p276; replace q276 := eq_true q276
        refine start_ (n := 10) (S := fun w' => w'.cell? (ad275.add ((AA).toNat * 2)) = some (.int .i64 ((rd_T68 l0 AA).f0)) ∧ w'.cell? ⟨(ad275.add ((AA).toNat * 2)).block, (ad275.add ((AA).toNat * 2)).off + 1, none⟩ = some (.int .i64 ((rd_T68 l0 AA).f1)) ∧ w'.cell? (ad276.add ((AA).toNat * 2)) = some (.int .i64 ((rd_T68 l1 AA).f0)) ∧ w'.cell? ⟨(ad276.add ((AA).toNat * 2)).block, (ad276.add ((AA).toNat * 2)).off + 1, none⟩ = some (.int .i64 ((rd_T68 l1 AA).f1))) (ds := []) (zl 10 0) (by kernel_rfl) rfl rfl zS (fun hHeld => ?_); refine with_tabW laws_eqFloorS.tab6 laws_eqFloorS.bits6 (fun HT_ HW_ => ?_)
        generalize wr.drew = AN at HB hx275_0 hx275_1 hx276_0 hx276_1 hHeld ⊢
        refine zu 0 17 10 1 ?_
        refine zu 1 18 10 3 ?_
        refine zu 2 19 10 7 ?_
        refine zu 4 21 10 23 ?_
        refine zu 5 22 10 55 ?_
        refine zu 6 23 10 119 ?_
        refine zv 3 20 10 127 ?_
        refine zv 7 24 10 255 ?_
        refine zo 8 (some 25) (zl 10 511) (fun K hK => ?_); refine zgo #[.agg #[.int .i64 ((rd_T68 l0 AA).f0), .int .i64 ((rd_T68 l0 AA).f1)], .agg #[.int .i64 ((rd_T68 l1 AA).f0), .int .i64 ((rd_T68 l1 AA).f1)]] Tryd.func66 ?_; (with_reducible refine (laws_eqFloor.calls ((rd_T68 l0 AA).f0) ((rd_T68 l0 AA).f1) ((rd_T68 l1 AA).f0) ((rd_T68 l1 AA).f1) false _ A7.out).mono ?_); rintro e AO ⟨rfl, hb⟩; refine ⟨_, rfl, ?_⟩; replace HB := zm (below_step zB hb); (try clear hb); refine hK.out _ _ zS (fun hHeld => ?_); clear hK K; refine zn ?_
        refine zu 9 26 10 1023 ?_
        refine done_ (done_of HT_.out (by kernel_rfl)) ?_
        try go_wp2
        go_ret
        exact ⟨zE, zB⟩
      ·rw [if_neg c6] at H
       exact absurd H (by simp)
     ·rw [if_neg c5] at H
      exact absurd H (by simp)
    ·rw [if_neg c4] at H; have AG : decide (AA < (l0.length : Int)) = false := decide_eq_false c4; clear c4; obtain rfl := Option.some.inj H
     go_wp2
     go_ret
     exact ⟨zE, zB⟩
 ·rw [if_neg c3] at H; have AB : ((l0.length : Int) == (l1.length : Int)) = false := beq_eq_false_iff_ne.mpr c3; have AC : ((l0.length : Int) != (l1.length : Int)) = true := bne_iff_ne.mpr c3
  have AD : (l0.length == l1.length) = false := by first | simpa using c3 | (simp at c3 ⊢; omega)
  obtain rfl := Option.some.inj H; go_enter Tryd.func46, Tryd.ntmps46
  go_wp2
  go_ret
  exact ⟨zE, zB⟩

/-! ### laws_eqState: function 25 -/
def laws_eqState.f (k : Nat) (l0_0 : List (S63)) (l0_1 : List (S68)) (l1_0 : List (S63)) (l1_1 : List (S68)) : Option (Bool) := (laws_eqItemS.f k l0_0 l1_0).bind fun t280 => (if t280 = true then ((laws_eqFloorS.f k l0_1 l1_1).bind fun t281 => (if t281 = true then (some true) else (some false))) else (some false))
theorem laws_eqState.mono : ∀ a0 a1 a2 a3 k, LeO (laws_eqState.f k a0 a1 a2 a3) (laws_eqState.f (k + 1) a0 a1 a2 a3) := by
 intro a0 a1 a2 a3 k
 unfold laws_eqState.f
 repeat' first | (with_reducible first | exact LeO.refl _ | exact LeO.none _ | refine LeO.ite ?_ ?_ | refine LeO.bind ?_ (fun _ => ?_) | apply laws_eqFloorS.mono | apply laws_eqItemS.mono) | apply laws_eqFloorS.mono | apply laws_eqItemS.mono | exact LeO.none _ | refine LeO.ite ?_ ?_ | refine LeO.bind ?_ (fun _ => ?_)
set_option maxHeartbeats 8000000 in
set_option maxRecDepth 100000 in
theorem laws_eqState.calls (k : Nat) (A0_0 : Option Addr) (c0_0 : Nat) (l0_0 : List (S63)) (A0_1 : Option Addr) (c0_1 : Nat) (l0_1 : List (S68)) (A1_0 : Option Addr) (c1_0 : Nat) (l1_0 : List (S63)) (A1_1 : Option Addr) (c1_1 : Nat) (l1_1 : List (S68)) (r : Bool) (w : World) (hr0_0 : Kd.C k63 w A0_0 l0_0.length l0_0) (hc0_0 : l0_0.length ≤ c0_0) (hr0_1 : Kd.C k68 w A0_1 l0_1.length l0_1) (hc0_1 : l0_1.length ≤ c0_1) (hr1_0 : Kd.C k63 w A1_0 l1_0.length l1_0) (hc1_0 : l1_0.length ≤ c1_0) (hr1_1 : Kd.C k68 w A1_1 l1_1.length l1_1) (hc1_1 : l1_1.length ≤ c1_1) (h : laws_eqState.f k l0_0 l0_1 l1_0 l1_1 = some r) :
  Calls Tryd.prog 25 #[.agg #[.slice A0_0 l0_0.length c0_0, .slice A0_1 l0_1.length c0_1], .agg #[.slice A1_0 l1_0.length c1_0, .slice A1_1 l1_1.length c1_1]] w fun e w' => e = .returned (.bool r) ∧ Below w.heap.size w w' := by
 have hu45 := Tryd.underlying45; have HR0_0 := zm hr0_0; have HC0_0 := zm hc0_0; clear hr0_0 hc0_0; have HR0_1 := zm hr0_1; have HC0_1 := zm hc0_1; clear hr0_1 hc0_1; have HR1_0 := zm hr1_0; have HC1_0 := zm hc1_0; clear hr1_0 hc1_0; have HR1_1 := zm hr1_1; have HC1_1 := zm hc1_1; clear hr1_1 hc1_1; have HB := zm (Below.refl w.heap.size w); have H : ((laws_eqItemS.f k l0_0 l1_0).bind fun AE => (if AE = true then ((laws_eqFloorS.f k l0_1 l1_1).bind fun AF => (if AF = true then (some true) else (some false))) else (some false))) = some r := h; clear h; replace H := Option.bind_eq_some_iff.mp H; obtain ⟨AE, AM, H⟩ := H; (try dsimp only at H); have A3 := zm AM; clear AM
 by_cases c4 : AE = true
 ·subst c4; rw [if_pos rfl] at H; replace H := Option.bind_eq_some_iff.mp H; obtain ⟨AF, AN, H⟩ := H; (try dsimp only at H); have A5 := zm AN; clear AN
  by_cases c6 : AF = true
  ·subst c6; rw [if_pos rfl] at H; obtain rfl := Option.some.inj H; go_enter Tryd.func25, Tryd.ntmps25
   go_wp2_with (first | ((with_reducible refine gate_dst (N := 2) rfl ?_); refine zbox 2 #[.slice A0_0 l0_0.length c0_0, .slice A0_1 l0_1.length c0_1] 45 ?_; intro AK hg w7 hbox hb; have AA := zm (hbox); have AI := zge w hg zB; have AG := zge w hg zB; replace HB := zm (below_step zB hb); clear hb hbox hg) | ((with_reducible refine gate_dst (N := 3) rfl ?_); refine zbox 3 #[.slice A1_0 l1_0.length c1_0, .slice A1_1 l1_1.length c1_1] 45 ?_; intro AL hg w8 hbox hb; have AB := zm (hbox); have AJ := zge w hg zB; have AH := zge w hg zB; replace HB := zm (below_step zB hb); have AC := zlt hg (zb AA); have AD := zgt hg (zb AA); replace AA := zy AA hb; clear hb hbox hg; have BD := AC.out; have BE := AD.out; obtain ⟨AO, AP, Ai, Aj⟩ := zc2 AA; obtain ⟨AQ, AR, Ak, Al⟩ := zc2 AB) | ((with_reducible refine gate_callee (f := 45) rfl ?_); refine zg (some 9) #[.slice A0_0 l0_0.length c0_0, .slice A1_0 l1_0.length c1_0] Tryd.func45 ?_; (with_reducible refine (laws_eqItemS.calls k _ _ l0_0 _ _ l1_0 true _ (zk (Kd.C_below HR0_0.out HB.out)) HC0_0.out (zk (Kd.C_below HR1_0.out HB.out)) HC1_0.out A3.out).mono ?_); rintro e BF ⟨rfl, hb⟩; refine ⟨_, rfl, ?_⟩; replace AA := zy AA hb; replace AB := zy AB hb; replace HB := zm (below_step zB hb); clear hb; obtain ⟨AS, AT, Am, An⟩ := zc2 AA; obtain ⟨AU, AV, Ao, Ap⟩ := zc2 AB) | ((with_reducible refine gate_callee (f := 46) rfl ?_); refine zg (some 15) #[.slice A0_1 l0_1.length c0_1, .slice A1_1 l1_1.length c1_1] Tryd.func46 ?_; (with_reducible refine (laws_eqFloorS.calls k _ _ l0_1 _ _ l1_1 true _ (zk (Kd.C_below HR0_1.out HB.out)) HC0_1.out (zk (Kd.C_below HR1_1.out HB.out)) HC1_1.out A5.out).mono ?_); rintro e BG ⟨rfl, hb⟩; refine ⟨_, rfl, ?_⟩; replace AA := zy AA hb; replace AB := zy AB hb; replace HB := zm (below_step zB hb); clear hb))
   go_ret
   exact ⟨zE, zB⟩
  ·replace c6 := Bool.eq_false_iff.mpr c6; subst c6; rw [zff] at H; obtain rfl := Option.some.inj H; go_enter Tryd.func25, Tryd.ntmps25
   go_wp2_with (first | ((with_reducible refine gate_dst (N := 2) rfl ?_); refine zbox 2 #[.slice A0_0 l0_0.length c0_0, .slice A0_1 l0_1.length c0_1] 45 ?_; intro AK hg BH hbox hb; have AA := zm (hbox); have AI := zge w hg zB; have AG := zge w hg zB; replace HB := zm (below_step zB hb); clear hb hbox hg) | ((with_reducible refine gate_dst (N := 3) rfl ?_); refine zbox 3 #[.slice A1_0 l1_0.length c1_0, .slice A1_1 l1_1.length c1_1] 45 ?_; intro AL hg BI hbox hb; have AB := zm (hbox); have AJ := zge w hg zB; have AH := zge w hg zB; replace HB := zm (below_step zB hb); have AC := zlt hg (zb AA); have AD := zgt hg (zb AA); replace AA := zy AA hb; clear hb hbox hg; have B3 := AC.out; have BB := AD.out; obtain ⟨AW, AX, Aq, Ar⟩ := zc2 AA; obtain ⟨AY, AZ, As, At⟩ := zc2 AB) | ((with_reducible refine gate_callee (f := 45) rfl ?_); refine zg (some 9) #[.slice A0_0 l0_0.length c0_0, .slice A1_0 l1_0.length c1_0] Tryd.func45 ?_; (with_reducible refine (laws_eqItemS.calls k _ _ l0_0 _ _ l1_0 true _ (zk (Kd.C_below HR0_0.out HB.out)) HC0_0.out (zk (Kd.C_below HR1_0.out HB.out)) HC1_0.out A3.out).mono ?_); rintro e BJ ⟨rfl, hb⟩; refine ⟨_, rfl, ?_⟩; replace AA := zy AA hb; replace AB := zy AB hb; replace HB := zm (below_step zB hb); clear hb; obtain ⟨Aa, Ab, Au, Av⟩ := zc2 AA; obtain ⟨Ac, Ad, Aw, Ax⟩ := zc2 AB) | ((with_reducible refine gate_callee (f := 46) rfl ?_); refine zg (some 15) #[.slice A0_1 l0_1.length c0_1, .slice A1_1 l1_1.length c1_1] Tryd.func46 ?_; (with_reducible refine (laws_eqFloorS.calls k _ _ l0_1 _ _ l1_1 false _ (zk (Kd.C_below HR0_1.out HB.out)) HC0_1.out (zk (Kd.C_below HR1_1.out HB.out)) HC1_1.out A5.out).mono ?_); rintro e BK ⟨rfl, hb⟩; refine ⟨_, rfl, ?_⟩; replace AA := zy AA hb; replace AB := zy AB hb; replace HB := zm (below_step zB hb); clear hb))
   go_ret
   exact ⟨zE, zB⟩
 ·replace c4 := Bool.eq_false_iff.mpr c4; subst c4; rw [zff] at H; obtain rfl := Option.some.inj H; go_enter Tryd.func25, Tryd.ntmps25
  go_wp2_with (first | ((with_reducible refine gate_dst (N := 2) rfl ?_); refine zbox 2 #[.slice A0_0 l0_0.length c0_0, .slice A0_1 l0_1.length c0_1] 45 ?_; intro AK hg BL hbox hb; have AA := zm (hbox); have AI := zge w hg zB; have AG := zge w hg zB; replace HB := zm (below_step zB hb); clear hb hbox hg) | ((with_reducible refine gate_dst (N := 3) rfl ?_); refine zbox 3 #[.slice A1_0 l1_0.length c1_0, .slice A1_1 l1_1.length c1_1] 45 ?_; intro AL hg BM hbox hb; have AB := zm (hbox); have AJ := zge w hg zB; have AH := zge w hg zB; replace HB := zm (below_step zB hb); have AC := zlt hg (zb AA); have AD := zgt hg (zb AA); replace AA := zy AA hb; clear hb hbox hg; have BA := AC.out; have BC := AD.out; obtain ⟨Ae, Af, Ay, Az⟩ := zc2 AA; obtain ⟨Ag, Ah, B0, B2⟩ := zc2 AB) | ((with_reducible refine gate_callee (f := 45) rfl ?_); refine zg (some 9) #[.slice A0_0 l0_0.length c0_0, .slice A1_0 l1_0.length c1_0] Tryd.func45 ?_; (with_reducible refine (laws_eqItemS.calls k _ _ l0_0 _ _ l1_0 false _ (zk (Kd.C_below HR0_0.out HB.out)) HC0_0.out (zk (Kd.C_below HR1_0.out HB.out)) HC1_0.out A3.out).mono ?_); rintro e BN ⟨rfl, hb⟩; refine ⟨_, rfl, ?_⟩; replace AA := zy AA hb; replace AB := zy AB hb; replace HB := zm (below_step zB hb); clear hb))
  go_ret
  exact ⟨zE, zB⟩

end Go.Proofs.YtomlglpmljngfaaDoor.P
