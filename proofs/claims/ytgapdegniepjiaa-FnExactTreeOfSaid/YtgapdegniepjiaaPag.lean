-- by a program of this session, for this seat
import Derived.Test.YtgapdegniepjiaaZ
import Derived.Test.YtgapdegniepjiaaP0
import Derived.Test.YtgapdegniepjiaaPaf
namespace Go.Proofs.Ytgapdegniepjiaa.P
open Go.RowKit Go.Proofs.YtgapdegniepjiaaW.PrintWords Go.Proofs.YtgapdegniepjiaaW.PrintLast Go.Proofs.YtgapdegniepjiaaW.PrintMore Go.Proofs.Ytgapdegniepjiaa.Z
attribute [local go_sem] max2_int min2_int max_two min_two max_three min_three max_four min_four   -- for this text's walks alone
set_option linter.unusedVariables false
set_option linter.unusedSimpArgs false

/-! ### laws_eqItem: function 96 -/
def laws_eqItem.f (a0_0 : Int) (a0_1 : Int) (a0_2 : Int) (a0_3 : Int) (a0_4 : Int) (a0_5 : ByteArray) (a1_0 : Int) (a1_1 : Int) (a1_2 : Int) (a1_3 : Int) (a1_4 : Int) (a1_5 : ByteArray) : Option (Bool) := if a0_0 = a1_0 then ((laws_eqEntry.f a0_1 a0_2 a0_3 a0_4 a0_5 a1_1 a1_2 a1_3 a1_4 a1_5).bind fun t334 => (if t334 = true then (some true) else (some false))) else (some false)
set_option maxHeartbeats 8000000 in
set_option maxRecDepth 100000 in
theorem laws_eqItem.calls (a0_0 : Int) (a0_1 : Int) (a0_2 : Int) (a0_3 : Int) (a0_4 : Int) (a0_5 : ByteArray) (a1_0 : Int) (a1_1 : Int) (a1_2 : Int) (a1_3 : Int) (a1_4 : Int) (a1_5 : ByteArray) (r : Bool) (w : World) (h : laws_eqItem.f a0_0 a0_1 a0_2 a0_3 a0_4 a0_5 a1_0 a1_1 a1_2 a1_3 a1_4 a1_5 = some r) :
  Calls Try.prog 96 #[.agg #[.int .i64 a0_0, .int .i64 a0_1, .int .i64 a0_2, .int .i64 a0_3, .int .i64 a0_4, .string a0_5], .agg #[.int .i64 a1_0, .int .i64 a1_1, .int .i64 a1_2, .int .i64 a1_3, .int .i64 a1_4, .string a1_5]] w fun e w' => e = .returned (.bool r) ∧ Below w.heap.size w w' := by
 have hu68 := Try.underlying68; have hu66 := Try.underlying66; have HB := zm (Below.refl w.heap.size w); have H : (if a0_0 = a1_0 then ((laws_eqEntry.f a0_1 a0_2 a0_3 a0_4 a0_5 a1_1 a1_2 a1_3 a1_4 a1_5).bind fun t334 => (if t334 = true then (some true) else (some false))) else (some false)) = some r := h; clear h
 by_cases c3 : a0_0 = a1_0
 ·rw [if_pos c3] at H; have c3b0 : (a0_0 == a1_0) = true := beq_iff_eq.mpr c3; have c3b1 : (a0_0 != a1_0) = false := bne_eq_false_iff_eq.mpr c3; clear c3; replace H := Option.bind_eq_some_iff.mp H; obtain ⟨t334, A40, H⟩ := H; (try dsimp only at H); have A4 := zm A40; clear A40
  by_cases c5 : t334 = true
  ·subst c5; rw [if_pos rfl] at H; obtain rfl := Option.some.inj H; go_enter Try.func96, Try.ntmps96
   go_wp2_with (first | (refine zbox 2 #[.int .i64 a0_0, .int .i64 a0_1, .int .i64 a0_2, .int .i64 a0_3, .int .i64 a0_4, .string a0_5] 68 ?_; intro gb332 hg w6 hbox hb; have BK332 := zm (hbox); have GW332 := zge w hg zB; have GE332 := zge w hg zB; replace HB := zm (below_step zB hb); clear hb hbox hg) | (refine zbox 3 #[.int .i64 a1_0, .int .i64 a1_1, .int .i64 a1_2, .int .i64 a1_3, .int .i64 a1_4, .string a1_5] 68 ?_; intro gb333 hg w7 hbox hb; have BK333 := zm (hbox); have GW333 := zge w hg zB; have GE333 := zge w hg zB; replace HB := zm (below_step zB hb); have NB332_333 := zlt hg (zb BK332); have NB333_332 := zgt hg (zb BK332); replace BK332 := zy BK332 hb; clear hb hbox hg; have hnb8 := NB332_333.out; have hnc8 := NB333_332.out; obtain ⟨hcz9_0, hcz9_1, hcz9_2, hcz9_3, hcz9_4, hcz9_5, hfz9_0, hfz9_1, hfz9_2, hfz9_3, hfz9_4, hfz9_5⟩ := zc6 BK332; obtain ⟨hcz10_0, hcz10_1, hcz10_2, hcz10_3, hcz10_4, hcz10_5, hfz10_0, hfz10_1, hfz10_2, hfz10_3, hfz10_4, hfz10_5⟩ := zc6 BK333) | (refine zg (some 14) #[.agg #[.int .i64 a0_1, .int .i64 a0_2, .int .i64 a0_3, .int .i64 a0_4, .string a0_5], .agg #[.int .i64 a1_1, .int .i64 a1_2, .int .i64 a1_3, .int .i64 a1_4, .string a1_5]] Try.func111 ?_; (with_reducible refine (laws_eqEntry.calls a0_1 a0_2 a0_3 a0_4 a0_5 a1_1 a1_2 a1_3 a1_4 a1_5 true _ A4.out).mono ?_); rintro e w11 ⟨rfl, hb⟩; refine ⟨_, rfl, ?_⟩; replace BK332 := zy BK332 hb; replace BK333 := zy BK333 hb; replace HB := zm (below_step zB hb); clear hb))
   go_ret
   exact ⟨zE, zB⟩
  ·replace c5 := Bool.eq_false_iff.mpr c5; subst c5; rw [zff] at H; obtain rfl := Option.some.inj H; go_enter Try.func96, Try.ntmps96
   go_wp2_with (first | (refine zbox 2 #[.int .i64 a0_0, .int .i64 a0_1, .int .i64 a0_2, .int .i64 a0_3, .int .i64 a0_4, .string a0_5] 68 ?_; intro gb332 hg w12 hbox hb; have BK332 := zm (hbox); have GW332 := zge w hg zB; have GE332 := zge w hg zB; replace HB := zm (below_step zB hb); clear hb hbox hg) | (refine zbox 3 #[.int .i64 a1_0, .int .i64 a1_1, .int .i64 a1_2, .int .i64 a1_3, .int .i64 a1_4, .string a1_5] 68 ?_; intro gb333 hg w13 hbox hb; have BK333 := zm (hbox); have GW333 := zge w hg zB; have GE333 := zge w hg zB; replace HB := zm (below_step zB hb); have NB332_333 := zlt hg (zb BK332); have NB333_332 := zgt hg (zb BK332); replace BK332 := zy BK332 hb; clear hb hbox hg; have hnb14 := NB332_333.out; have hnc14 := NB333_332.out; obtain ⟨hcz15_0, hcz15_1, hcz15_2, hcz15_3, hcz15_4, hcz15_5, hfz15_0, hfz15_1, hfz15_2, hfz15_3, hfz15_4, hfz15_5⟩ := zc6 BK332; obtain ⟨hcz16_0, hcz16_1, hcz16_2, hcz16_3, hcz16_4, hcz16_5, hfz16_0, hfz16_1, hfz16_2, hfz16_3, hfz16_4, hfz16_5⟩ := zc6 BK333) | (refine zg (some 14) #[.agg #[.int .i64 a0_1, .int .i64 a0_2, .int .i64 a0_3, .int .i64 a0_4, .string a0_5], .agg #[.int .i64 a1_1, .int .i64 a1_2, .int .i64 a1_3, .int .i64 a1_4, .string a1_5]] Try.func111 ?_; (with_reducible refine (laws_eqEntry.calls a0_1 a0_2 a0_3 a0_4 a0_5 a1_1 a1_2 a1_3 a1_4 a1_5 false _ A4.out).mono ?_); rintro e w17 ⟨rfl, hb⟩; refine ⟨_, rfl, ?_⟩; replace BK332 := zy BK332 hb; replace BK333 := zy BK333 hb; replace HB := zm (below_step zB hb); clear hb))
   go_ret
   exact ⟨zE, zB⟩
 ·rw [if_neg c3] at H; have c3b0 : (a0_0 == a1_0) = false := beq_eq_false_iff_ne.mpr c3; have c3b1 : (a0_0 != a1_0) = true := bne_iff_ne.mpr c3; obtain rfl := Option.some.inj H; go_enter Try.func96, Try.ntmps96
  go_wp2_with (first | (refine zbox 2 #[.int .i64 a0_0, .int .i64 a0_1, .int .i64 a0_2, .int .i64 a0_3, .int .i64 a0_4, .string a0_5] 68 ?_; intro gb332 hg w18 hbox hb; have BK332 := zm (hbox); have GW332 := zge w hg zB; have GE332 := zge w hg zB; replace HB := zm (below_step zB hb); clear hb hbox hg) | (refine zbox 3 #[.int .i64 a1_0, .int .i64 a1_1, .int .i64 a1_2, .int .i64 a1_3, .int .i64 a1_4, .string a1_5] 68 ?_; intro gb333 hg w19 hbox hb; have BK333 := zm (hbox); have GW333 := zge w hg zB; have GE333 := zge w hg zB; replace HB := zm (below_step zB hb); have NB332_333 := zlt hg (zb BK332); have NB333_332 := zgt hg (zb BK332); replace BK332 := zy BK332 hb; clear hb hbox hg; have hnb20 := NB332_333.out; have hnc20 := NB333_332.out; obtain ⟨hcz21_0, hcz21_1, hcz21_2, hcz21_3, hcz21_4, hcz21_5, hfz21_0, hfz21_1, hfz21_2, hfz21_3, hfz21_4, hfz21_5⟩ := zc6 BK332; obtain ⟨hcz22_0, hcz22_1, hcz22_2, hcz22_3, hcz22_4, hcz22_5, hfz22_0, hfz22_1, hfz22_2, hfz22_3, hfz22_4, hfz22_5⟩ := zc6 BK333))
  go_ret
  exact ⟨zE, zB⟩

/-! ### laws_eqItemS: function 57 -/
def laws_eqItemS.l0 : Nat → List (S68) → List (S68) → Int → Option (Bool)
 | 0, _, _, _ => none
 | k + 1, x0, x1, x5 => if x5 < (x0.length : Int) then (if 0 ≤ x5 then (if x5 < (x1.length : Int) then ((laws_eqItem.f ((rd_T68 x0 x5).f0) ((rd_T68 x0 x5).f1.f0) ((rd_T68 x0 x5).f1.f1) ((rd_T68 x0 x5).f1.f2) ((rd_T68 x0 x5).f1.f3) ((rd_T68 x0 x5).f1.f4) ((rd_T68 x1 x5).f0) ((rd_T68 x1 x5).f1.f0) ((rd_T68 x1 x5).f1.f1) ((rd_T68 x1 x5).f1.f2) ((rd_T68 x1 x5).f1.f3) ((rd_T68 x1 x5).f1.f4)).bind fun t337 => (if t337 = true then (laws_eqItemS.l0 k x0 x1 (wrap64 (x5 + 1))) else (some false))) else (none)) else (none)) else (some true)
def laws_eqItemS.f (k : Nat) (l0 : List (S68)) (l1 : List (S68)) : Option (Bool) := if (l0.length : Int) = (l1.length : Int) then (laws_eqItemS.l0 k l0 l1 0) else (some false)
theorem laws_eqItemS.mono_l : ∀ k, (∀ y0 y1 y2, LeO (laws_eqItemS.l0 k y0 y1 y2) (laws_eqItemS.l0 (k + 1) y0 y1 y2))
 | 0 => fun _ _ _ r h => by simp [laws_eqItemS.l0] at h
 | k + 1 => by
  have ih0 := laws_eqItemS.mono_l k
  ·intro y0 y1 y2
   unfold laws_eqItemS.l0
   repeat' first | (with_reducible first | exact LeO.refl _ | exact LeO.none _ | refine LeO.ite ?_ ?_ | refine LeO.bind ?_ (fun _ => ?_) | apply ih0) | apply ih0 | exact LeO.none _ | refine LeO.ite ?_ ?_ | refine LeO.bind ?_ (fun _ => ?_)
theorem laws_eqItemS.mono : ∀ a0 a1 k, LeO (laws_eqItemS.f k a0 a1) (laws_eqItemS.f (k + 1) a0 a1) := by
 intro a0 a1 k; have ih0 := laws_eqItemS.mono_l k
 unfold laws_eqItemS.f
 repeat' first | (with_reducible first | exact LeO.refl _ | exact LeO.none _ | refine LeO.ite ?_ ?_ | refine LeO.bind ?_ (fun _ => ?_) | apply ih0) | apply ih0 | exact LeO.none _ | refine LeO.ite ?_ ?_ | refine LeO.bind ?_ (fun _ => ?_)
def laws_eqItemS.T6 : Bool × List (List Nat × List Nat) := (true, [([], []), ([], []), ([0, 1], [0, 1]), ([2], [2]), ([], []), ([], []), ([4, 5], [4, 5]), ([6], [6]), ([3, 7], [3, 7]), ([8], [8])])
def laws_eqItemS.B6 : List Nat := [0, 0, 3, 7, 0, 0, 48, 112, 255, 511]
theorem laws_eqItemS.tab6 : rtab .any (opsOf Try.f57 6) = laws_eqItemS.T6 := by kernel_rfl
theorem laws_eqItemS.bits6 : waitsOk laws_eqItemS.T6.2 laws_eqItemS.B6 = true := by kernel_rfl
set_option maxHeartbeats 8000000 in
set_option maxRecDepth 100000 in
theorem laws_eqItemS.calls (k : Nat) (A0 : Option Addr) (c0 : Nat) (l0 : List (S68)) (A1 : Option Addr) (c1 : Nat) (l1 : List (S68)) (r : Bool) (w : World) (hr0 : Kd.C k68 w A0 l0.length l0) (hc0 : l0.length ≤ c0) (hr1 : Kd.C k68 w A1 l1.length l1) (hc1 : l1.length ≤ c1) (h : laws_eqItemS.f k l0 l1 = some r) :
  Calls Try.prog 57 #[.slice A0 l0.length c0, .slice A1 l1.length c1] w fun e w' => e = .returned (.bool r) ∧ Below w.heap.size w w' := by
 have hu68 := Try.underlying68; have HR0 := zm hr0; have HC0 := zm hc0; clear hr0 hc0; have HR1 := zm hr1; have HC1 := zm hc1; clear hr1 hc1; have HB := zm (Below.refl w.heap.size w); have H : (if (l0.length : Int) = (l1.length : Int) then (laws_eqItemS.l0 k l0 l1 0) else (some false)) = some r := h; clear h
 by_cases c3 : (l0.length : Int) = (l1.length : Int)
 ·rw [if_pos c3] at H; have c3b0 : ((l0.length : Int) == (l1.length : Int)) = true := beq_iff_eq.mpr c3; have c3b1 : ((l0.length : Int) != (l1.length : Int)) = false := bne_eq_false_iff_eq.mpr c3
  have c3b2 : (l0.length == l1.length) = true := by first | simpa using c3 | (simp at c3 ⊢; omega)
  clear c3
  have H' := zm H
  clear H; go_enter Try.func57, Try.ntmps57
  go_wp2
  go_loopg [5] k (fun kq v5 w' => ∃ (x5_1 : Int), v5 = .int .i64 x5_1 ∧ Aside0 (laws_eqItemS.l0 kq l0 l1 x5_1 = some r) ∧ Aside0 (kq ≤ k) ∧ Aside0 (Below w.heap.size w w'))
  case atStart => exact ⟨(0), zF, H', ⟨Nat.le_refl _⟩, ⟨zB⟩⟩
  case round =>
   clear H'; (try clear c1); (try clear c3); (try clear c3b0); (try clear c3b1); (try clear c3b2); obtain ⟨x5_1, rfl, HA, HK1, HB⟩ := hrel
   cases gk with
   | zero => exact absurd HA.out (by simp [laws_eqItemS.l0])
   | succ k1 =>
    have H := HA.out; clear HA; simp only [laws_eqItemS.l0] at H
    by_cases c4 : x5_1 < (l0.length : Int)
    ·rw [if_pos c4] at H; have c4b0 : decide (x5_1 < (l0.length : Int)) = true := decide_eq_true c4; clear c4
     by_cases c5 : 0 ≤ x5_1
     ·rw [if_pos c5] at H; have c5b0 : decide (0 ≤ x5_1) = true := decide_eq_true c5; clear c5
      by_cases c6 : x5_1 < (l1.length : Int)
      ·rw [if_pos c6] at H; have c6b0 : decide (x5_1 < (l1.length : Int)) = true := decide_eq_true c6; clear c6; replace H := Option.bind_eq_some_iff.mp H; obtain ⟨t337, A70, H⟩ := H; (try dsimp only at H); have A7 := zm A70; clear A70
       by_cases c8 : t337 = true
       ·subst c8; rw [if_pos rfl] at H
        have H' := zm H
        clear H
        try go_wp2
        replace HB := zm (below_drew1 HB.out); have p335 : 0 ≤ (x5_1 : Int) := zd; have q335 : x5_1 < (l0.length : Int) := zd; obtain ⟨ad335, e335, hx335_0, hx335_1, hx335_2, hx335_3, hx335_4, hx335_5⟩ := at_T68 HR0.out x5_1 p335 q335; have hw335_5 := hx335_5; have hw335_4 := hx335_4; have hw335_3 := hx335_3; have hw335_2 := hx335_2; have hw335_1 := hx335_1; have hw335_0 := hx335_0; cases e335; replace hx335_0 := zx HB hx335_0; replace hx335_1 := zx HB hx335_1; replace hx335_2 := zx HB hx335_2; replace hx335_3 := zx HB hx335_3; replace hx335_4 := zx HB hx335_4; replace hx335_5 := zx HB hx335_5; replace p335 := eq_true p335; replace q335 := eq_true q335; have p336 : 0 ≤ (x5_1 : Int) := zd; have q336 : x5_1 < (l1.length : Int) := zd; obtain ⟨ad336, e336, hx336_0, hx336_1, hx336_2, hx336_3, hx336_4, hx336_5⟩ := at_T68 HR1.out x5_1 p336 q336; have hw336_5 := hx336_5; have hw336_4 := hx336_4; have hw336_3 := hx336_3; have hw336_2 := hx336_2; have hw336_1 := hx336_1; have hw336_0 := hx336_0; cases e336; replace hx336_0 := zx HB hx336_0; replace hx336_1 := zx HB hx336_1; replace hx336_2 := zx HB hx336_2; replace hx336_3 := zx HB hx336_3; replace hx336_4 := zx HB hx336_4; replace hx336_5 := zx HB hx336_5; replace p336 := eq_true p336; replace q336 := eq_true q336
        refine start_ (n := 10) (S := fun w' => w'.cell? (ad335.add ((x5_1).toNat * 6)) = some (.int .i64 ((rd_T68 l0 x5_1).f0)) ∧ w'.cell? ⟨(ad335.add ((x5_1).toNat * 6)).block, (ad335.add ((x5_1).toNat * 6)).off + 1, none⟩ = some (.int .i64 ((rd_T68 l0 x5_1).f1.f0)) ∧ w'.cell? ⟨(ad335.add ((x5_1).toNat * 6)).block, (ad335.add ((x5_1).toNat * 6)).off + 2, none⟩ = some (.int .i64 ((rd_T68 l0 x5_1).f1.f1)) ∧ w'.cell? ⟨(ad335.add ((x5_1).toNat * 6)).block, (ad335.add ((x5_1).toNat * 6)).off + 3, none⟩ = some (.int .i64 ((rd_T68 l0 x5_1).f1.f2)) ∧ w'.cell? ⟨(ad335.add ((x5_1).toNat * 6)).block, (ad335.add ((x5_1).toNat * 6)).off + 4, none⟩ = some (.int .i64 ((rd_T68 l0 x5_1).f1.f3)) ∧ w'.cell? ⟨(ad335.add ((x5_1).toNat * 6)).block, (ad335.add ((x5_1).toNat * 6)).off + 5, none⟩ = some (.string ((rd_T68 l0 x5_1).f1.f4)) ∧ w'.cell? (ad336.add ((x5_1).toNat * 6)) = some (.int .i64 ((rd_T68 l1 x5_1).f0)) ∧ w'.cell? ⟨(ad336.add ((x5_1).toNat * 6)).block, (ad336.add ((x5_1).toNat * 6)).off + 1, none⟩ = some (.int .i64 ((rd_T68 l1 x5_1).f1.f0)) ∧ w'.cell? ⟨(ad336.add ((x5_1).toNat * 6)).block, (ad336.add ((x5_1).toNat * 6)).off + 2, none⟩ = some (.int .i64 ((rd_T68 l1 x5_1).f1.f1)) ∧ w'.cell? ⟨(ad336.add ((x5_1).toNat * 6)).block, (ad336.add ((x5_1).toNat * 6)).off + 3, none⟩ = some (.int .i64 ((rd_T68 l1 x5_1).f1.f2)) ∧ w'.cell? ⟨(ad336.add ((x5_1).toNat * 6)).block, (ad336.add ((x5_1).toNat * 6)).off + 4, none⟩ = some (.int .i64 ((rd_T68 l1 x5_1).f1.f3)) ∧ w'.cell? ⟨(ad336.add ((x5_1).toNat * 6)).block, (ad336.add ((x5_1).toNat * 6)).off + 5, none⟩ = some (.string ((rd_T68 l1 x5_1).f1.f4))) (ds := []) (zl 10 0) (by kernel_rfl) rfl rfl zS (fun hHeld => ?_); refine with_tabW laws_eqItemS.tab6 laws_eqItemS.bits6 (fun HT_ HW_ => ?_)
        generalize wr.drew = w9 at HB hx335_0 hx335_1 hx335_2 hx335_3 hx335_4 hx335_5 hx336_0 hx336_1 hx336_2 hx336_3 hx336_4 hx336_5 hHeld ⊢
        refine zu 0 17 10 1 ?_
        refine zu 1 18 10 3 ?_
        refine zu 2 19 10 7 ?_
        refine zu 4 21 10 23 ?_
        refine zu 5 22 10 55 ?_
        refine zu 6 23 10 119 ?_
        refine zv 3 20 10 127 ?_
        refine zv 7 24 10 255 ?_
        refine zo 8 (some 25) (zl 10 511) (fun K hK => ?_); refine zgo #[.agg #[.int .i64 ((rd_T68 l0 x5_1).f0), .int .i64 ((rd_T68 l0 x5_1).f1.f0), .int .i64 ((rd_T68 l0 x5_1).f1.f1), .int .i64 ((rd_T68 l0 x5_1).f1.f2), .int .i64 ((rd_T68 l0 x5_1).f1.f3), .string ((rd_T68 l0 x5_1).f1.f4)], .agg #[.int .i64 ((rd_T68 l1 x5_1).f0), .int .i64 ((rd_T68 l1 x5_1).f1.f0), .int .i64 ((rd_T68 l1 x5_1).f1.f1), .int .i64 ((rd_T68 l1 x5_1).f1.f2), .int .i64 ((rd_T68 l1 x5_1).f1.f3), .string ((rd_T68 l1 x5_1).f1.f4)]] Try.func96 ?_; (with_reducible refine (laws_eqItem.calls ((rd_T68 l0 x5_1).f0) ((rd_T68 l0 x5_1).f1.f0) ((rd_T68 l0 x5_1).f1.f1) ((rd_T68 l0 x5_1).f1.f2) ((rd_T68 l0 x5_1).f1.f3) ((rd_T68 l0 x5_1).f1.f4) ((rd_T68 l1 x5_1).f0) ((rd_T68 l1 x5_1).f1.f0) ((rd_T68 l1 x5_1).f1.f1) ((rd_T68 l1 x5_1).f1.f2) ((rd_T68 l1 x5_1).f1.f3) ((rd_T68 l1 x5_1).f1.f4) true _ A7.out).mono ?_); rintro e w10 ⟨rfl, hb⟩; refine ⟨_, rfl, ?_⟩; replace HB := zm (below_step zB hb); (try clear hb); refine hK.out _ _ zS (fun hHeld => ?_); clear hK K; refine zn ?_
        refine zu 9 26 10 1023 ?_
        refine done_ (done_of HT_.out (by kernel_rfl)) ?_
        try go_wp2
        go_roundg k1
        case measure => have := HK1.out; omega
        case rel => exact ⟨(wrap64 (x5_1 + 1)), zF, H', ⟨by have := HK1.out; omega⟩, ⟨zB⟩⟩
       ·replace c8 := Bool.eq_false_iff.mpr c8; subst c8; rw [zff] at H; obtain rfl := Option.some.inj H
        try go_wp2
        replace HB := zm (below_drew1 HB.out); have p335 : 0 ≤ (x5_1 : Int) := zd; have q335 : x5_1 < (l0.length : Int) := zd; obtain ⟨ad335, e335, hx335_0, hx335_1, hx335_2, hx335_3, hx335_4, hx335_5⟩ := at_T68 HR0.out x5_1 p335 q335; have hw335_5 := hx335_5; have hw335_4 := hx335_4; have hw335_3 := hx335_3; have hw335_2 := hx335_2; have hw335_1 := hx335_1; have hw335_0 := hx335_0; cases e335; replace hx335_0 := zx HB hx335_0; replace hx335_1 := zx HB hx335_1; replace hx335_2 := zx HB hx335_2; replace hx335_3 := zx HB hx335_3; replace hx335_4 := zx HB hx335_4; replace hx335_5 := zx HB hx335_5; replace p335 := eq_true p335; replace q335 := eq_true q335; have p336 : 0 ≤ (x5_1 : Int) := zd; have q336 : x5_1 < (l1.length : Int) := zd; obtain ⟨ad336, e336, hx336_0, hx336_1, hx336_2, hx336_3, hx336_4, hx336_5⟩ := at_T68 HR1.out x5_1 p336 q336; have hw336_5 := hx336_5; have hw336_4 := hx336_4; have hw336_3 := hx336_3; have hw336_2 := hx336_2; have hw336_1 := hx336_1; have hw336_0 := hx336_0; cases e336; replace hx336_0 := zx HB hx336_0; replace hx336_1 := zx HB hx336_1; replace hx336_2 := zx HB hx336_2; replace hx336_3 := zx HB hx336_3; replace hx336_4 := zx HB hx336_4; replace hx336_5 := zx HB hx336_5; replace p336 := eq_true p336; replace q336 := eq_true q336
        refine start_ (n := 10) (S := fun w' => w'.cell? (ad335.add ((x5_1).toNat * 6)) = some (.int .i64 ((rd_T68 l0 x5_1).f0)) ∧ w'.cell? ⟨(ad335.add ((x5_1).toNat * 6)).block, (ad335.add ((x5_1).toNat * 6)).off + 1, none⟩ = some (.int .i64 ((rd_T68 l0 x5_1).f1.f0)) ∧ w'.cell? ⟨(ad335.add ((x5_1).toNat * 6)).block, (ad335.add ((x5_1).toNat * 6)).off + 2, none⟩ = some (.int .i64 ((rd_T68 l0 x5_1).f1.f1)) ∧ w'.cell? ⟨(ad335.add ((x5_1).toNat * 6)).block, (ad335.add ((x5_1).toNat * 6)).off + 3, none⟩ = some (.int .i64 ((rd_T68 l0 x5_1).f1.f2)) ∧ w'.cell? ⟨(ad335.add ((x5_1).toNat * 6)).block, (ad335.add ((x5_1).toNat * 6)).off + 4, none⟩ = some (.int .i64 ((rd_T68 l0 x5_1).f1.f3)) ∧ w'.cell? ⟨(ad335.add ((x5_1).toNat * 6)).block, (ad335.add ((x5_1).toNat * 6)).off + 5, none⟩ = some (.string ((rd_T68 l0 x5_1).f1.f4)) ∧ w'.cell? (ad336.add ((x5_1).toNat * 6)) = some (.int .i64 ((rd_T68 l1 x5_1).f0)) ∧ w'.cell? ⟨(ad336.add ((x5_1).toNat * 6)).block, (ad336.add ((x5_1).toNat * 6)).off + 1, none⟩ = some (.int .i64 ((rd_T68 l1 x5_1).f1.f0)) ∧ w'.cell? ⟨(ad336.add ((x5_1).toNat * 6)).block, (ad336.add ((x5_1).toNat * 6)).off + 2, none⟩ = some (.int .i64 ((rd_T68 l1 x5_1).f1.f1)) ∧ w'.cell? ⟨(ad336.add ((x5_1).toNat * 6)).block, (ad336.add ((x5_1).toNat * 6)).off + 3, none⟩ = some (.int .i64 ((rd_T68 l1 x5_1).f1.f2)) ∧ w'.cell? ⟨(ad336.add ((x5_1).toNat * 6)).block, (ad336.add ((x5_1).toNat * 6)).off + 4, none⟩ = some (.int .i64 ((rd_T68 l1 x5_1).f1.f3)) ∧ w'.cell? ⟨(ad336.add ((x5_1).toNat * 6)).block, (ad336.add ((x5_1).toNat * 6)).off + 5, none⟩ = some (.string ((rd_T68 l1 x5_1).f1.f4))) (ds := []) (zl 10 0) (by kernel_rfl) rfl rfl zS (fun hHeld => ?_); refine with_tabW laws_eqItemS.tab6 laws_eqItemS.bits6 (fun HT_ HW_ => ?_)
        generalize wr.drew = w11 at HB hx335_0 hx335_1 hx335_2 hx335_3 hx335_4 hx335_5 hx336_0 hx336_1 hx336_2 hx336_3 hx336_4 hx336_5 hHeld ⊢
        refine zu 0 17 10 1 ?_
        refine zu 1 18 10 3 ?_
        refine zu 2 19 10 7 ?_
        refine zu 4 21 10 23 ?_
        refine zu 5 22 10 55 ?_
        refine zu 6 23 10 119 ?_
        refine zv 3 20 10 127 ?_
        refine zv 7 24 10 255 ?_
        refine zo 8 (some 25) (zl 10 511) (fun K hK => ?_); refine zgo #[.agg #[.int .i64 ((rd_T68 l0 x5_1).f0), .int .i64 ((rd_T68 l0 x5_1).f1.f0), .int .i64 ((rd_T68 l0 x5_1).f1.f1), .int .i64 ((rd_T68 l0 x5_1).f1.f2), .int .i64 ((rd_T68 l0 x5_1).f1.f3), .string ((rd_T68 l0 x5_1).f1.f4)], .agg #[.int .i64 ((rd_T68 l1 x5_1).f0), .int .i64 ((rd_T68 l1 x5_1).f1.f0), .int .i64 ((rd_T68 l1 x5_1).f1.f1), .int .i64 ((rd_T68 l1 x5_1).f1.f2), .int .i64 ((rd_T68 l1 x5_1).f1.f3), .string ((rd_T68 l1 x5_1).f1.f4)]] Try.func96 ?_; (with_reducible refine (laws_eqItem.calls ((rd_T68 l0 x5_1).f0) ((rd_T68 l0 x5_1).f1.f0) ((rd_T68 l0 x5_1).f1.f1) ((rd_T68 l0 x5_1).f1.f2) ((rd_T68 l0 x5_1).f1.f3) ((rd_T68 l0 x5_1).f1.f4) ((rd_T68 l1 x5_1).f0) ((rd_T68 l1 x5_1).f1.f0) ((rd_T68 l1 x5_1).f1.f1) ((rd_T68 l1 x5_1).f1.f2) ((rd_T68 l1 x5_1).f1.f3) ((rd_T68 l1 x5_1).f1.f4) false _ A7.out).mono ?_); rintro e w12 ⟨rfl, hb⟩; refine ⟨_, rfl, ?_⟩; replace HB := zm (below_step zB hb); (try clear hb); refine hK.out _ _ zS (fun hHeld => ?_); clear hK K; refine zn ?_
        refine zu 9 26 10 1023 ?_
        refine done_ (done_of HT_.out (by kernel_rfl)) ?_
        try go_wp2
        go_ret
        exact ⟨zE, zB⟩
      ·rw [if_neg c6] at H
       exact absurd H (by simp)
     ·rw [if_neg c5] at H
      exact absurd H (by simp)
    ·rw [if_neg c4] at H; have c4b0 : decide (x5_1 < (l0.length : Int)) = false := decide_eq_false c4; clear c4; obtain rfl := Option.some.inj H
     go_wp2
     go_ret
     exact ⟨zE, zB⟩
 ·rw [if_neg c3] at H; have c3b0 : ((l0.length : Int) == (l1.length : Int)) = false := beq_eq_false_iff_ne.mpr c3; have c3b1 : ((l0.length : Int) != (l1.length : Int)) = true := bne_iff_ne.mpr c3
  have c3b2 : (l0.length == l1.length) = false := by first | simpa using c3 | (simp at c3 ⊢; omega)
  obtain rfl := Option.some.inj H; go_enter Try.func57, Try.ntmps57
  go_wp2
  go_ret
  exact ⟨zE, zB⟩

/-! ### laws_eqFloor: function 97 -/
def laws_eqFloor.f (a0_0 : Int) (a0_1 : Int) (a1_0 : Int) (a1_1 : Int) : Option (Bool) := if a0_0 = a1_0 then (if a0_1 = a1_1 then (some true) else (some false)) else (some false)
set_option maxHeartbeats 8000000 in
set_option maxRecDepth 100000 in
theorem laws_eqFloor.calls (a0_0 : Int) (a0_1 : Int) (a1_0 : Int) (a1_1 : Int) (r : Bool) (w : World) (h : laws_eqFloor.f a0_0 a0_1 a1_0 a1_1 = some r) :
  Calls Try.prog 97 #[.agg #[.int .i64 a0_0, .int .i64 a0_1], .agg #[.int .i64 a1_0, .int .i64 a1_1]] w fun e w' => e = .returned (.bool r) ∧ Below w.heap.size w w' := by
 have hu72 := Try.underlying72; have HB := zm (Below.refl w.heap.size w); have H : (if a0_0 = a1_0 then (if a0_1 = a1_1 then (some true) else (some false)) else (some false)) = some r := h; clear h
 by_cases c3 : a0_0 = a1_0
 ·rw [if_pos c3] at H; have c3b0 : (a0_0 == a1_0) = true := beq_iff_eq.mpr c3; have c3b1 : (a0_0 != a1_0) = false := bne_eq_false_iff_eq.mpr c3; clear c3
  by_cases c4 : a0_1 = a1_1
  ·rw [if_pos c4] at H; have c4b0 : (a0_1 == a1_1) = true := beq_iff_eq.mpr c4; have c4b1 : (a0_1 != a1_1) = false := bne_eq_false_iff_eq.mpr c4; clear c4; obtain rfl := Option.some.inj H; go_enter Try.func97, Try.ntmps97
   go_wp2_with (first | (refine zbox 2 #[.int .i64 a0_0, .int .i64 a0_1] 72 ?_; intro gb338 hg w5 hbox hb; have BK338 := zm (hbox); have GW338 := zge w hg zB; have GE338 := zge w hg zB; replace HB := zm (below_step zB hb); clear hb hbox hg) | (refine zbox 3 #[.int .i64 a1_0, .int .i64 a1_1] 72 ?_; intro gb339 hg w6 hbox hb; have BK339 := zm (hbox); have GW339 := zge w hg zB; have GE339 := zge w hg zB; replace HB := zm (below_step zB hb); have NB338_339 := zlt hg (zb BK338); have NB339_338 := zgt hg (zb BK338); replace BK338 := zy BK338 hb; clear hb hbox hg; have hnb7 := NB338_339.out; have hnc7 := NB339_338.out; obtain ⟨hcz8_0, hcz8_1, hfz8_0, hfz8_1⟩ := zc2 BK338; obtain ⟨hcz9_0, hcz9_1, hfz9_0, hfz9_1⟩ := zc2 BK339))
   go_ret
   exact ⟨zE, zB⟩
  ·rw [if_neg c4] at H; have c4b0 : (a0_1 == a1_1) = false := beq_eq_false_iff_ne.mpr c4; have c4b1 : (a0_1 != a1_1) = true := bne_iff_ne.mpr c4; obtain rfl := Option.some.inj H; go_enter Try.func97, Try.ntmps97
   go_wp2_with (first | (refine zbox 2 #[.int .i64 a0_0, .int .i64 a0_1] 72 ?_; intro gb338 hg w10 hbox hb; have BK338 := zm (hbox); have GW338 := zge w hg zB; have GE338 := zge w hg zB; replace HB := zm (below_step zB hb); clear hb hbox hg) | (refine zbox 3 #[.int .i64 a1_0, .int .i64 a1_1] 72 ?_; intro gb339 hg w11 hbox hb; have BK339 := zm (hbox); have GW339 := zge w hg zB; have GE339 := zge w hg zB; replace HB := zm (below_step zB hb); have NB338_339 := zlt hg (zb BK338); have NB339_338 := zgt hg (zb BK338); replace BK338 := zy BK338 hb; clear hb hbox hg; have hnb12 := NB338_339.out; have hnc12 := NB339_338.out; obtain ⟨hcz13_0, hcz13_1, hfz13_0, hfz13_1⟩ := zc2 BK338; obtain ⟨hcz14_0, hcz14_1, hfz14_0, hfz14_1⟩ := zc2 BK339))
   go_ret
   exact ⟨zE, zB⟩
 ·rw [if_neg c3] at H; have c3b0 : (a0_0 == a1_0) = false := beq_eq_false_iff_ne.mpr c3; have c3b1 : (a0_0 != a1_0) = true := bne_iff_ne.mpr c3; obtain rfl := Option.some.inj H; go_enter Try.func97, Try.ntmps97
  go_wp2_with (first | (refine zbox 2 #[.int .i64 a0_0, .int .i64 a0_1] 72 ?_; intro gb338 hg w15 hbox hb; have BK338 := zm (hbox); have GW338 := zge w hg zB; have GE338 := zge w hg zB; replace HB := zm (below_step zB hb); clear hb hbox hg) | (refine zbox 3 #[.int .i64 a1_0, .int .i64 a1_1] 72 ?_; intro gb339 hg w16 hbox hb; have BK339 := zm (hbox); have GW339 := zge w hg zB; have GE339 := zge w hg zB; replace HB := zm (below_step zB hb); have NB338_339 := zlt hg (zb BK338); have NB339_338 := zgt hg (zb BK338); replace BK338 := zy BK338 hb; clear hb hbox hg; have hnb17 := NB338_339.out; have hnc17 := NB339_338.out; obtain ⟨hcz18_0, hcz18_1, hfz18_0, hfz18_1⟩ := zc2 BK338; obtain ⟨hcz19_0, hcz19_1, hfz19_0, hfz19_1⟩ := zc2 BK339))
  go_ret
  exact ⟨zE, zB⟩

/-! ### laws_eqFloorS: function 58 -/
def laws_eqFloorS.l0 : Nat → List (S72) → List (S72) → Int → Option (Bool)
 | 0, _, _, _ => none
 | k + 1, x0, x1, x5 => if x5 < (x0.length : Int) then (if 0 ≤ x5 then (if x5 < (x1.length : Int) then ((laws_eqFloor.f ((rd_T72 x0 x5).f0) ((rd_T72 x0 x5).f1) ((rd_T72 x1 x5).f0) ((rd_T72 x1 x5).f1)).bind fun t342 => (if t342 = true then (laws_eqFloorS.l0 k x0 x1 (wrap64 (x5 + 1))) else (some false))) else (none)) else (none)) else (some true)
def laws_eqFloorS.f (k : Nat) (l0 : List (S72)) (l1 : List (S72)) : Option (Bool) := if (l0.length : Int) = (l1.length : Int) then (laws_eqFloorS.l0 k l0 l1 0) else (some false)
theorem laws_eqFloorS.mono_l : ∀ k, (∀ y0 y1 y2, LeO (laws_eqFloorS.l0 k y0 y1 y2) (laws_eqFloorS.l0 (k + 1) y0 y1 y2))
 | 0 => fun _ _ _ r h => by simp [laws_eqFloorS.l0] at h
 | k + 1 => by
  have ih0 := laws_eqFloorS.mono_l k
  ·intro y0 y1 y2
   unfold laws_eqFloorS.l0
   repeat' first | (with_reducible first | exact LeO.refl _ | exact LeO.none _ | refine LeO.ite ?_ ?_ | refine LeO.bind ?_ (fun _ => ?_) | apply ih0) | apply ih0 | exact LeO.none _ | refine LeO.ite ?_ ?_ | refine LeO.bind ?_ (fun _ => ?_)
theorem laws_eqFloorS.mono : ∀ a0 a1 k, LeO (laws_eqFloorS.f k a0 a1) (laws_eqFloorS.f (k + 1) a0 a1) := by
 intro a0 a1 k; have ih0 := laws_eqFloorS.mono_l k
 unfold laws_eqFloorS.f
 repeat' first | (with_reducible first | exact LeO.refl _ | exact LeO.none _ | refine LeO.ite ?_ ?_ | refine LeO.bind ?_ (fun _ => ?_) | apply ih0) | apply ih0 | exact LeO.none _ | refine LeO.ite ?_ ?_ | refine LeO.bind ?_ (fun _ => ?_)
def laws_eqFloorS.T6 : Bool × List (List Nat × List Nat) := (true, [([], []), ([], []), ([0, 1], [0, 1]), ([2], [2]), ([], []), ([], []), ([4, 5], [4, 5]), ([6], [6]), ([3, 7], [3, 7]), ([8], [8])])
def laws_eqFloorS.B6 : List Nat := [0, 0, 3, 7, 0, 0, 48, 112, 255, 511]
theorem laws_eqFloorS.tab6 : rtab .any (opsOf Try.f58 6) = laws_eqFloorS.T6 := by kernel_rfl
theorem laws_eqFloorS.bits6 : waitsOk laws_eqFloorS.T6.2 laws_eqFloorS.B6 = true := by kernel_rfl
set_option maxHeartbeats 8000000 in
set_option maxRecDepth 100000 in
theorem laws_eqFloorS.calls (k : Nat) (A0 : Option Addr) (c0 : Nat) (l0 : List (S72)) (A1 : Option Addr) (c1 : Nat) (l1 : List (S72)) (r : Bool) (w : World) (hr0 : Kd.C k72 w A0 l0.length l0) (hc0 : l0.length ≤ c0) (hr1 : Kd.C k72 w A1 l1.length l1) (hc1 : l1.length ≤ c1) (h : laws_eqFloorS.f k l0 l1 = some r) :
  Calls Try.prog 58 #[.slice A0 l0.length c0, .slice A1 l1.length c1] w fun e w' => e = .returned (.bool r) ∧ Below w.heap.size w w' := by
 have hu72 := Try.underlying72; have HR0 := zm hr0; have HC0 := zm hc0; clear hr0 hc0; have HR1 := zm hr1; have HC1 := zm hc1; clear hr1 hc1; have HB := zm (Below.refl w.heap.size w); have H : (if (l0.length : Int) = (l1.length : Int) then (laws_eqFloorS.l0 k l0 l1 0) else (some false)) = some r := h; clear h
 by_cases c3 : (l0.length : Int) = (l1.length : Int)
 ·rw [if_pos c3] at H; have c3b0 : ((l0.length : Int) == (l1.length : Int)) = true := beq_iff_eq.mpr c3; have c3b1 : ((l0.length : Int) != (l1.length : Int)) = false := bne_eq_false_iff_eq.mpr c3
  have c3b2 : (l0.length == l1.length) = true := by first | simpa using c3 | (simp at c3 ⊢; omega)
  clear c3
  have H' := zm H
  clear H; go_enter Try.func58, Try.ntmps58
  go_wp2
  go_loopg [5] k (fun kq v5 w' => ∃ (x5_1 : Int), v5 = .int .i64 x5_1 ∧ Aside0 (laws_eqFloorS.l0 kq l0 l1 x5_1 = some r) ∧ Aside0 (kq ≤ k) ∧ Aside0 (Below w.heap.size w w'))
  case atStart => exact ⟨(0), zF, H', ⟨Nat.le_refl _⟩, ⟨zB⟩⟩
  case round =>
   clear H'; (try clear c1); (try clear c3); (try clear c3b0); (try clear c3b1); (try clear c3b2); obtain ⟨x5_1, rfl, HA, HK1, HB⟩ := hrel
   cases gk with
   | zero => exact absurd HA.out (by simp [laws_eqFloorS.l0])
   | succ k1 =>
    have H := HA.out; clear HA; simp only [laws_eqFloorS.l0] at H
    by_cases c4 : x5_1 < (l0.length : Int)
    ·rw [if_pos c4] at H; have c4b0 : decide (x5_1 < (l0.length : Int)) = true := decide_eq_true c4; clear c4
     by_cases c5 : 0 ≤ x5_1
     ·rw [if_pos c5] at H; have c5b0 : decide (0 ≤ x5_1) = true := decide_eq_true c5; clear c5
      by_cases c6 : x5_1 < (l1.length : Int)
      ·rw [if_pos c6] at H; have c6b0 : decide (x5_1 < (l1.length : Int)) = true := decide_eq_true c6; clear c6; replace H := Option.bind_eq_some_iff.mp H; obtain ⟨t342, A70, H⟩ := H; (try dsimp only at H); have A7 := zm A70; clear A70
       by_cases c8 : t342 = true
       ·subst c8; rw [if_pos rfl] at H
        have H' := zm H
        clear H
        try go_wp2
        replace HB := zm (below_drew1 HB.out); have p340 : 0 ≤ (x5_1 : Int) := zd; have q340 : x5_1 < (l0.length : Int) := zd; obtain ⟨ad340, e340, hx340_0, hx340_1⟩ := at_T72 HR0.out x5_1 p340 q340; have hw340_1 := hx340_1; have hw340_0 := hx340_0; cases e340; replace hx340_0 := zx HB hx340_0; replace hx340_1 := zx HB hx340_1; replace p340 := eq_true p340; replace q340 := eq_true q340; have p341 : 0 ≤ (x5_1 : Int) := zd; have q341 : x5_1 < (l1.length : Int) := zd; obtain ⟨ad341, e341, hx341_0, hx341_1⟩ := at_T72 HR1.out x5_1 p341 q341; have hw341_1 := hx341_1; have hw341_0 := hx341_0; cases e341; replace hx341_0 := zx HB hx341_0; replace hx341_1 := zx HB hx341_1; replace p341 := eq_true p341; replace q341 := eq_true q341
        refine start_ (n := 10) (S := fun w' => w'.cell? (ad340.add ((x5_1).toNat * 2)) = some (.int .i64 ((rd_T72 l0 x5_1).f0)) ∧ w'.cell? ⟨(ad340.add ((x5_1).toNat * 2)).block, (ad340.add ((x5_1).toNat * 2)).off + 1, none⟩ = some (.int .i64 ((rd_T72 l0 x5_1).f1)) ∧ w'.cell? (ad341.add ((x5_1).toNat * 2)) = some (.int .i64 ((rd_T72 l1 x5_1).f0)) ∧ w'.cell? ⟨(ad341.add ((x5_1).toNat * 2)).block, (ad341.add ((x5_1).toNat * 2)).off + 1, none⟩ = some (.int .i64 ((rd_T72 l1 x5_1).f1))) (ds := []) (zl 10 0) (by kernel_rfl) rfl rfl zS (fun hHeld => ?_); refine with_tabW laws_eqFloorS.tab6 laws_eqFloorS.bits6 (fun HT_ HW_ => ?_)
        generalize wr.drew = w9 at HB hx340_0 hx340_1 hx341_0 hx341_1 hHeld ⊢
        refine zu 0 17 10 1 ?_
        refine zu 1 18 10 3 ?_
        refine zu 2 19 10 7 ?_
        refine zu 4 21 10 23 ?_
        refine zu 5 22 10 55 ?_
        refine zu 6 23 10 119 ?_
        refine zv 3 20 10 127 ?_
        refine zv 7 24 10 255 ?_
        refine zo 8 (some 25) (zl 10 511) (fun K hK => ?_); refine zgo #[.agg #[.int .i64 ((rd_T72 l0 x5_1).f0), .int .i64 ((rd_T72 l0 x5_1).f1)], .agg #[.int .i64 ((rd_T72 l1 x5_1).f0), .int .i64 ((rd_T72 l1 x5_1).f1)]] Try.func97 ?_; (with_reducible refine (laws_eqFloor.calls ((rd_T72 l0 x5_1).f0) ((rd_T72 l0 x5_1).f1) ((rd_T72 l1 x5_1).f0) ((rd_T72 l1 x5_1).f1) true _ A7.out).mono ?_); rintro e w10 ⟨rfl, hb⟩; refine ⟨_, rfl, ?_⟩; replace HB := zm (below_step zB hb); (try clear hb); refine hK.out _ _ zS (fun hHeld => ?_); clear hK K; refine zn ?_
        refine zu 9 26 10 1023 ?_
        refine done_ (done_of HT_.out (by kernel_rfl)) ?_
        try go_wp2
        go_roundg k1
        case measure => have := HK1.out; omega
        case rel => exact ⟨(wrap64 (x5_1 + 1)), zF, H', ⟨by have := HK1.out; omega⟩, ⟨zB⟩⟩
       ·replace c8 := Bool.eq_false_iff.mpr c8; subst c8; rw [zff] at H; obtain rfl := Option.some.inj H
        try go_wp2
        replace HB := zm (below_drew1 HB.out); have p340 : 0 ≤ (x5_1 : Int) := zd; have q340 : x5_1 < (l0.length : Int) := zd; obtain ⟨ad340, e340, hx340_0, hx340_1⟩ := at_T72 HR0.out x5_1 p340 q340; have hw340_1 := hx340_1; have hw340_0 := hx340_0; cases e340; replace hx340_0 := zx HB hx340_0; replace hx340_1 := zx HB hx340_1; replace p340 := eq_true p340; replace q340 := eq_true q340; have p341 : 0 ≤ (x5_1 : Int) := zd; have q341 : x5_1 < (l1.length : Int) := zd; obtain ⟨ad341, e341, hx341_0, hx341_1⟩ := at_T72 HR1.out x5_1 p341 q341; have hw341_1 := hx341_1; have hw341_0 := hx341_0; cases e341; replace hx341_0 := zx HB hx341_0; replace hx341_1 := zx HB hx341_1; replace p341 := eq_true p341; replace q341 := eq_true q341
        refine start_ (n := 10) (S := fun w' => w'.cell? (ad340.add ((x5_1).toNat * 2)) = some (.int .i64 ((rd_T72 l0 x5_1).f0)) ∧ w'.cell? ⟨(ad340.add ((x5_1).toNat * 2)).block, (ad340.add ((x5_1).toNat * 2)).off + 1, none⟩ = some (.int .i64 ((rd_T72 l0 x5_1).f1)) ∧ w'.cell? (ad341.add ((x5_1).toNat * 2)) = some (.int .i64 ((rd_T72 l1 x5_1).f0)) ∧ w'.cell? ⟨(ad341.add ((x5_1).toNat * 2)).block, (ad341.add ((x5_1).toNat * 2)).off + 1, none⟩ = some (.int .i64 ((rd_T72 l1 x5_1).f1))) (ds := []) (zl 10 0) (by kernel_rfl) rfl rfl zS (fun hHeld => ?_); refine with_tabW laws_eqFloorS.tab6 laws_eqFloorS.bits6 (fun HT_ HW_ => ?_)
        generalize wr.drew = w11 at HB hx340_0 hx340_1 hx341_0 hx341_1 hHeld ⊢
        refine zu 0 17 10 1 ?_
        refine zu 1 18 10 3 ?_
        refine zu 2 19 10 7 ?_
        refine zu 4 21 10 23 ?_
        refine zu 5 22 10 55 ?_
        refine zu 6 23 10 119 ?_
        refine zv 3 20 10 127 ?_
        refine zv 7 24 10 255 ?_
        refine zo 8 (some 25) (zl 10 511) (fun K hK => ?_); refine zgo #[.agg #[.int .i64 ((rd_T72 l0 x5_1).f0), .int .i64 ((rd_T72 l0 x5_1).f1)], .agg #[.int .i64 ((rd_T72 l1 x5_1).f0), .int .i64 ((rd_T72 l1 x5_1).f1)]] Try.func97 ?_; (with_reducible refine (laws_eqFloor.calls ((rd_T72 l0 x5_1).f0) ((rd_T72 l0 x5_1).f1) ((rd_T72 l1 x5_1).f0) ((rd_T72 l1 x5_1).f1) false _ A7.out).mono ?_); rintro e w12 ⟨rfl, hb⟩; refine ⟨_, rfl, ?_⟩; replace HB := zm (below_step zB hb); (try clear hb); refine hK.out _ _ zS (fun hHeld => ?_); clear hK K; refine zn ?_
        refine zu 9 26 10 1023 ?_
        refine done_ (done_of HT_.out (by kernel_rfl)) ?_
        try go_wp2
        go_ret
        exact ⟨zE, zB⟩
      ·rw [if_neg c6] at H
       exact absurd H (by simp)
     ·rw [if_neg c5] at H
      exact absurd H (by simp)
    ·rw [if_neg c4] at H; have c4b0 : decide (x5_1 < (l0.length : Int)) = false := decide_eq_false c4; clear c4; obtain rfl := Option.some.inj H
     go_wp2
     go_ret
     exact ⟨zE, zB⟩
 ·rw [if_neg c3] at H; have c3b0 : ((l0.length : Int) == (l1.length : Int)) = false := beq_eq_false_iff_ne.mpr c3; have c3b1 : ((l0.length : Int) != (l1.length : Int)) = true := bne_iff_ne.mpr c3
  have c3b2 : (l0.length == l1.length) = false := by first | simpa using c3 | (simp at c3 ⊢; omega)
  obtain rfl := Option.some.inj H; go_enter Try.func58, Try.ntmps58
  go_wp2
  go_ret
  exact ⟨zE, zB⟩

/-! ### laws_eqState: function 18 -/
def laws_eqState.f (k : Nat) (l0_0 : List (S68)) (l0_1 : List (S72)) (l1_0 : List (S68)) (l1_1 : List (S72)) : Option (Bool) := (laws_eqItemS.f k l0_0 l1_0).bind fun t345 => (if t345 = true then ((laws_eqFloorS.f k l0_1 l1_1).bind fun t346 => (if t346 = true then (some true) else (some false))) else (some false))
theorem laws_eqState.mono : ∀ a0 a1 a2 a3 k, LeO (laws_eqState.f k a0 a1 a2 a3) (laws_eqState.f (k + 1) a0 a1 a2 a3) := by
 intro a0 a1 a2 a3 k
 unfold laws_eqState.f
 repeat' first | (with_reducible first | exact LeO.refl _ | exact LeO.none _ | refine LeO.ite ?_ ?_ | refine LeO.bind ?_ (fun _ => ?_) | apply laws_eqFloorS.mono | apply laws_eqItemS.mono) | apply laws_eqFloorS.mono | apply laws_eqItemS.mono | exact LeO.none _ | refine LeO.ite ?_ ?_ | refine LeO.bind ?_ (fun _ => ?_)
set_option maxHeartbeats 8000000 in
set_option maxRecDepth 100000 in
theorem laws_eqState.calls (k : Nat) (A0_0 : Option Addr) (c0_0 : Nat) (l0_0 : List (S68)) (A0_1 : Option Addr) (c0_1 : Nat) (l0_1 : List (S72)) (A1_0 : Option Addr) (c1_0 : Nat) (l1_0 : List (S68)) (A1_1 : Option Addr) (c1_1 : Nat) (l1_1 : List (S72)) (r : Bool) (w : World) (hr0_0 : Kd.C k68 w A0_0 l0_0.length l0_0) (hc0_0 : l0_0.length ≤ c0_0) (hr0_1 : Kd.C k72 w A0_1 l0_1.length l0_1) (hc0_1 : l0_1.length ≤ c0_1) (hr1_0 : Kd.C k68 w A1_0 l1_0.length l1_0) (hc1_0 : l1_0.length ≤ c1_0) (hr1_1 : Kd.C k72 w A1_1 l1_1.length l1_1) (hc1_1 : l1_1.length ≤ c1_1) (h : laws_eqState.f k l0_0 l0_1 l1_0 l1_1 = some r) :
  Calls Try.prog 18 #[.agg #[.slice A0_0 l0_0.length c0_0, .slice A0_1 l0_1.length c0_1], .agg #[.slice A1_0 l1_0.length c1_0, .slice A1_1 l1_1.length c1_1]] w fun e w' => e = .returned (.bool r) ∧ Below w.heap.size w w' := by
 have hu32 := Try.underlying32; have HR0_0 := zm hr0_0; have HC0_0 := zm hc0_0; clear hr0_0 hc0_0; have HR0_1 := zm hr0_1; have HC0_1 := zm hc0_1; clear hr0_1 hc0_1; have HR1_0 := zm hr1_0; have HC1_0 := zm hc1_0; clear hr1_0 hc1_0; have HR1_1 := zm hr1_1; have HC1_1 := zm hc1_1; clear hr1_1 hc1_1; have HB := zm (Below.refl w.heap.size w); have H : ((laws_eqItemS.f k l0_0 l1_0).bind fun t345 => (if t345 = true then ((laws_eqFloorS.f k l0_1 l1_1).bind fun t346 => (if t346 = true then (some true) else (some false))) else (some false))) = some r := h; clear h; replace H := Option.bind_eq_some_iff.mp H; obtain ⟨t345, A30, H⟩ := H; (try dsimp only at H); have A3 := zm A30; clear A30
 by_cases c4 : t345 = true
 ·subst c4; rw [if_pos rfl] at H; replace H := Option.bind_eq_some_iff.mp H; obtain ⟨t346, A50, H⟩ := H; (try dsimp only at H); have A5 := zm A50; clear A50
  by_cases c6 : t346 = true
  ·subst c6; rw [if_pos rfl] at H; obtain rfl := Option.some.inj H; go_enter Try.func18, Try.ntmps18
   go_wp2_with (first | (refine zbox 2 #[.slice A0_0 l0_0.length c0_0, .slice A0_1 l0_1.length c0_1] 32 ?_; intro gb343 hg w7 hbox hb; have BK343 := zm (hbox); have GW343 := zge w hg zB; have GE343 := zge w hg zB; replace HB := zm (below_step zB hb); clear hb hbox hg) | (refine zbox 3 #[.slice A1_0 l1_0.length c1_0, .slice A1_1 l1_1.length c1_1] 32 ?_; intro gb344 hg w8 hbox hb; have BK344 := zm (hbox); have GW344 := zge w hg zB; have GE344 := zge w hg zB; replace HB := zm (below_step zB hb); have NB343_344 := zlt hg (zb BK343); have NB344_343 := zgt hg (zb BK343); replace BK343 := zy BK343 hb; clear hb hbox hg; have hnb9 := NB343_344.out; have hnc9 := NB344_343.out; obtain ⟨hcz10_0, hcz10_1, hfz10_0, hfz10_1⟩ := zc2 BK343; obtain ⟨hcz11_0, hcz11_1, hfz11_0, hfz11_1⟩ := zc2 BK344) | (refine zg (some 9) #[.slice A0_0 l0_0.length c0_0, .slice A1_0 l1_0.length c1_0] Try.func57 ?_; (with_reducible refine (laws_eqItemS.calls k _ _ l0_0 _ _ l1_0 true _ (zk (Kd.C_below HR0_0.out HB.out)) HC0_0.out (zk (Kd.C_below HR1_0.out HB.out)) HC1_0.out A3.out).mono ?_); rintro e w12 ⟨rfl, hb⟩; refine ⟨_, rfl, ?_⟩; replace BK343 := zy BK343 hb; replace BK344 := zy BK344 hb; replace HB := zm (below_step zB hb); clear hb; obtain ⟨hcz13_0, hcz13_1, hfz13_0, hfz13_1⟩ := zc2 BK343; obtain ⟨hcz14_0, hcz14_1, hfz14_0, hfz14_1⟩ := zc2 BK344) | (refine zg (some 15) #[.slice A0_1 l0_1.length c0_1, .slice A1_1 l1_1.length c1_1] Try.func58 ?_; (with_reducible refine (laws_eqFloorS.calls k _ _ l0_1 _ _ l1_1 true _ (zk (Kd.C_below HR0_1.out HB.out)) HC0_1.out (zk (Kd.C_below HR1_1.out HB.out)) HC1_1.out A5.out).mono ?_); rintro e w15 ⟨rfl, hb⟩; refine ⟨_, rfl, ?_⟩; replace BK343 := zy BK343 hb; replace BK344 := zy BK344 hb; replace HB := zm (below_step zB hb); clear hb))
   go_ret
   exact ⟨zE, zB⟩
  ·replace c6 := Bool.eq_false_iff.mpr c6; subst c6; rw [zff] at H; obtain rfl := Option.some.inj H; go_enter Try.func18, Try.ntmps18
   go_wp2_with (first | (refine zbox 2 #[.slice A0_0 l0_0.length c0_0, .slice A0_1 l0_1.length c0_1] 32 ?_; intro gb343 hg w16 hbox hb; have BK343 := zm (hbox); have GW343 := zge w hg zB; have GE343 := zge w hg zB; replace HB := zm (below_step zB hb); clear hb hbox hg) | (refine zbox 3 #[.slice A1_0 l1_0.length c1_0, .slice A1_1 l1_1.length c1_1] 32 ?_; intro gb344 hg w17 hbox hb; have BK344 := zm (hbox); have GW344 := zge w hg zB; have GE344 := zge w hg zB; replace HB := zm (below_step zB hb); have NB343_344 := zlt hg (zb BK343); have NB344_343 := zgt hg (zb BK343); replace BK343 := zy BK343 hb; clear hb hbox hg; have hnb18 := NB343_344.out; have hnc18 := NB344_343.out; obtain ⟨hcz19_0, hcz19_1, hfz19_0, hfz19_1⟩ := zc2 BK343; obtain ⟨hcz20_0, hcz20_1, hfz20_0, hfz20_1⟩ := zc2 BK344) | (refine zg (some 9) #[.slice A0_0 l0_0.length c0_0, .slice A1_0 l1_0.length c1_0] Try.func57 ?_; (with_reducible refine (laws_eqItemS.calls k _ _ l0_0 _ _ l1_0 true _ (zk (Kd.C_below HR0_0.out HB.out)) HC0_0.out (zk (Kd.C_below HR1_0.out HB.out)) HC1_0.out A3.out).mono ?_); rintro e w21 ⟨rfl, hb⟩; refine ⟨_, rfl, ?_⟩; replace BK343 := zy BK343 hb; replace BK344 := zy BK344 hb; replace HB := zm (below_step zB hb); clear hb; obtain ⟨hcz22_0, hcz22_1, hfz22_0, hfz22_1⟩ := zc2 BK343; obtain ⟨hcz23_0, hcz23_1, hfz23_0, hfz23_1⟩ := zc2 BK344) | (refine zg (some 15) #[.slice A0_1 l0_1.length c0_1, .slice A1_1 l1_1.length c1_1] Try.func58 ?_; (with_reducible refine (laws_eqFloorS.calls k _ _ l0_1 _ _ l1_1 false _ (zk (Kd.C_below HR0_1.out HB.out)) HC0_1.out (zk (Kd.C_below HR1_1.out HB.out)) HC1_1.out A5.out).mono ?_); rintro e w24 ⟨rfl, hb⟩; refine ⟨_, rfl, ?_⟩; replace BK343 := zy BK343 hb; replace BK344 := zy BK344 hb; replace HB := zm (below_step zB hb); clear hb))
   go_ret
   exact ⟨zE, zB⟩
 ·replace c4 := Bool.eq_false_iff.mpr c4; subst c4; rw [zff] at H; obtain rfl := Option.some.inj H; go_enter Try.func18, Try.ntmps18
  go_wp2_with (first | (refine zbox 2 #[.slice A0_0 l0_0.length c0_0, .slice A0_1 l0_1.length c0_1] 32 ?_; intro gb343 hg w25 hbox hb; have BK343 := zm (hbox); have GW343 := zge w hg zB; have GE343 := zge w hg zB; replace HB := zm (below_step zB hb); clear hb hbox hg) | (refine zbox 3 #[.slice A1_0 l1_0.length c1_0, .slice A1_1 l1_1.length c1_1] 32 ?_; intro gb344 hg w26 hbox hb; have BK344 := zm (hbox); have GW344 := zge w hg zB; have GE344 := zge w hg zB; replace HB := zm (below_step zB hb); have NB343_344 := zlt hg (zb BK343); have NB344_343 := zgt hg (zb BK343); replace BK343 := zy BK343 hb; clear hb hbox hg; have hnb27 := NB343_344.out; have hnc27 := NB344_343.out; obtain ⟨hcz28_0, hcz28_1, hfz28_0, hfz28_1⟩ := zc2 BK343; obtain ⟨hcz29_0, hcz29_1, hfz29_0, hfz29_1⟩ := zc2 BK344) | (refine zg (some 9) #[.slice A0_0 l0_0.length c0_0, .slice A1_0 l1_0.length c1_0] Try.func57 ?_; (with_reducible refine (laws_eqItemS.calls k _ _ l0_0 _ _ l1_0 false _ (zk (Kd.C_below HR0_0.out HB.out)) HC0_0.out (zk (Kd.C_below HR1_0.out HB.out)) HC1_0.out A3.out).mono ?_); rintro e w30 ⟨rfl, hb⟩; refine ⟨_, rfl, ?_⟩; replace BK343 := zy BK343 hb; replace BK344 := zy BK344 hb; replace HB := zm (below_step zB hb); clear hb))
  go_ret
  exact ⟨zE, zB⟩

end Go.Proofs.Ytgapdegniepjiaa.P
