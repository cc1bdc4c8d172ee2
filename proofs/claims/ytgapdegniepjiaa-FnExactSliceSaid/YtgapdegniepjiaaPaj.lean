-- by a program of this session, for this seat
import Derived.Test.YtgapdegniepjiaaZ
import Derived.Test.YtgapdegniepjiaaP0
import Derived.Test.YtgapdegniepjiaaPac
namespace Go.Proofs.Ytgapdegniepjiaa.P
open Go.RowKit Go.Proofs.YtgapdegniepjiaaW.PrintWords Go.Proofs.YtgapdegniepjiaaW.PrintLast Go.Proofs.YtgapdegniepjiaaW.PrintMore Go.Proofs.Ytgapdegniepjiaa.Z
attribute [local go_sem] max2_int min2_int max_two min_two max_three min_three max_four min_four   -- for this text's walks alone
set_option linter.unusedVariables false
set_option linter.unusedSimpArgs false

/-! ### laws_heldItemS: function 70 -/
def laws_heldItemS.l0 : Nat → List (S68) → Int → Int → Option (Int)
 | 0, _, _, _ => none
 | k + 1, x0, x1, x5 => if x5 < (x0.length : Int) then (if 0 ≤ x5 then (if ((rd_T68 x0 x5).f0) = x1 then (if ((rd_T68 x0 x5).f1.f0) = (wrap64 (x1 + 1)) then (if ((rd_T68 x0 x5).f1.f1) = (wrap64 ((wrap64 (x1 + 1)) + 1)) then (if ((rd_T68 x0 x5).f1.f2) = (wrap64 ((wrap64 ((wrap64 (x1 + 1)) + 1)) + 1)) then (if ((rd_T68 x0 x5).f1.f3) = (wrap64 ((wrap64 ((wrap64 ((wrap64 (x1 + 1)) + 1)) + 1)) + 1)) then ((laws_markText.f k (wrap64 ((wrap64 ((wrap64 ((wrap64 ((wrap64 (x1 + 1)) + 1)) + 1)) + 1)) + 1))).bind fun t361 => (if ((rd_T68 x0 x5).f1.f4).toList = t361.toList then (laws_heldItemS.l0 k x0 (wrap64 ((wrap64 ((wrap64 ((wrap64 ((wrap64 ((wrap64 (x1 + 1)) + 1)) + 1)) + 1)) + 1)) + 1)) (wrap64 (x5 + 1))) else (some (-1)))) else (some (-1))) else (some (-1))) else (some (-1))) else (some (-1))) else (some (-1))) else (none)) else (some x1)
def laws_heldItemS.f (k : Nat) (l0 : List (S68)) (a1 : Int) : Option (Int) := laws_heldItemS.l0 k l0 a1 0
theorem laws_heldItemS.mono_l : ∀ k, (∀ y0 y1 y2, LeO (laws_heldItemS.l0 k y0 y1 y2) (laws_heldItemS.l0 (k + 1) y0 y1 y2))
 | 0 => fun _ _ _ r h => by simp [laws_heldItemS.l0] at h
 | k + 1 => by
  have ih0 := laws_heldItemS.mono_l k
  ·intro y0 y1 y2
   unfold laws_heldItemS.l0
   repeat' first
   | (with_reducible exact ih0 _ _ _)
   | (with_reducible exact laws_markText.mono _ _)
   | (with_reducible exact LeO.refl _)
   | (with_reducible exact LeO.none _)
   | (with_reducible refine LeO.ite ?_ ?_)
   | (with_reducible refine LeO.bind ?_ (fun _ => ?_))
   | exact ih0 _ _ _
   | exact laws_markText.mono _ _
   | exact LeO.none _
   | refine LeO.ite ?_ ?_
   | refine LeO.bind ?_ (fun _ => ?_)
theorem laws_heldItemS.mono : ∀ a0 a1 k, LeO (laws_heldItemS.f k a0 a1) (laws_heldItemS.f (k + 1) a0 a1) := by
 intro a0 a1 k
 have ih0 := laws_heldItemS.mono_l k
 unfold laws_heldItemS.f
 repeat' first
   | (with_reducible exact ih0 _ _ _)
   | (with_reducible exact laws_markText.mono _ _)
   | (with_reducible exact LeO.refl _)
   | (with_reducible exact LeO.none _)
   | (with_reducible refine LeO.ite ?_ ?_)
   | (with_reducible refine LeO.bind ?_ (fun _ => ?_))
   | exact ih0 _ _ _
   | exact laws_markText.mono _ _
   | exact LeO.none _
   | refine LeO.ite ?_ ?_
   | refine LeO.bind ?_ (fun _ => ?_)
def laws_heldItemS.T19 : Bool × List (List Nat × List Nat) := (true, [([], []), ([], []), ([0, 1], [0, 1]), ([2], [2]), ([3], [3]), ([4], [4]), ([], []), ([6], [6]), ([5, 7], [5, 7])])
def laws_heldItemS.B19 : List Nat := [0, 0, 3, 7, 15, 31, 0, 64, 255]
theorem laws_heldItemS.tab19 : rtab .any (opsOf Try.f70 19) = laws_heldItemS.T19 := by kernel_rfl
theorem laws_heldItemS.bits19 : waitsOk laws_heldItemS.T19.2 laws_heldItemS.B19 = true := by kernel_rfl
set_option maxHeartbeats 8000000 in
set_option maxRecDepth 100000 in
theorem laws_heldItemS.calls (k : Nat) (A0 : Option Addr) (c0 : Nat) (l0 : List (S68)) (a1 : Int) (r : Int) (w : World) (hr0 : Kd.C k68 w A0 l0.length l0) (hc0 : l0.length ≤ c0) (h : laws_heldItemS.f k l0 a1 = some r) :
  Calls Try.prog 70 #[.slice A0 l0.length c0, .int .i64 a1] w fun e w' => e = .returned (.int .i64 r) ∧ Below w.heap.size w w' := by
 have HR0 := zm hr0
 have HC0 := zm hc0
 clear hr0 hc0
 have HB := zm (Below.refl w.heap.size w)
 have H : (laws_heldItemS.l0 k l0 a1 0) = some r := h
 clear h
 have H' := zm H
 clear H
 go_enter Try.func70, Try.ntmps70
 go_wp2
 go_loopg [1, 5] k (fun kq v1 v5 w' => ∃ (x1_1 : Int) (x5_1 : Int), v1 = .int .i64 x1_1 ∧ v5 = .int .i64 x5_1 ∧ Aside0 (laws_heldItemS.l0 kq l0 x1_1 x5_1 = some r) ∧ Aside0 (kq ≤ k) ∧ Aside0 (Below w.heap.size w w'))
 case atStart => exact ⟨(a1), (0), zF, zF, H', ⟨Nat.le_refl _⟩, ⟨zB⟩⟩
 case round =>
  clear H'
  try clear p2
  obtain ⟨x1_1, x5_1, rfl, rfl, HA, HK1, HB⟩ := hrel
  cases gk with
  | zero => exact absurd HA.out (by simp [laws_heldItemS.l0])
  | succ k1 =>
   have H := HA.out
   clear HA
   simp only [laws_heldItemS.l0] at H
   by_cases c3 : x5_1 < (l0.length : Int)
   ·rw [if_pos c3] at H
    have c3b0 : decide (x5_1 < (l0.length : Int)) = true := decide_eq_true c3
    clear c3
    by_cases c4 : 0 ≤ x5_1
    ·rw [if_pos c4] at H
     have c4b0 : decide (0 ≤ x5_1) = true := decide_eq_true c4
     clear c4
     by_cases c5 : ((rd_T68 l0 x5_1).f0) = x1_1
     ·rw [if_pos c5] at H
      have c5b0 : (((rd_T68 l0 x5_1).f0) == x1_1) = true := beq_iff_eq.mpr c5
      have c5b1 : (((rd_T68 l0 x5_1).f0) != x1_1) = false := bne_eq_false_iff_eq.mpr c5
      clear c5
      by_cases c6 : ((rd_T68 l0 x5_1).f1.f0) = (wrap64 (x1_1 + 1))
      ·rw [if_pos c6] at H
       have c6b0 : (((rd_T68 l0 x5_1).f1.f0) == (wrap64 (x1_1 + 1))) = true := beq_iff_eq.mpr c6
       have c6b1 : (((rd_T68 l0 x5_1).f1.f0) != (wrap64 (x1_1 + 1))) = false := bne_eq_false_iff_eq.mpr c6
       clear c6
       by_cases c7 : ((rd_T68 l0 x5_1).f1.f1) = (wrap64 ((wrap64 (x1_1 + 1)) + 1))
       ·rw [if_pos c7] at H
        have c7b0 : (((rd_T68 l0 x5_1).f1.f1) == (wrap64 ((wrap64 (x1_1 + 1)) + 1))) = true := beq_iff_eq.mpr c7
        have c7b1 : (((rd_T68 l0 x5_1).f1.f1) != (wrap64 ((wrap64 (x1_1 + 1)) + 1))) = false := bne_eq_false_iff_eq.mpr c7
        clear c7
        by_cases c8 : ((rd_T68 l0 x5_1).f1.f2) = (wrap64 ((wrap64 ((wrap64 (x1_1 + 1)) + 1)) + 1))
        ·rw [if_pos c8] at H
         have c8b0 : (((rd_T68 l0 x5_1).f1.f2) == (wrap64 ((wrap64 ((wrap64 (x1_1 + 1)) + 1)) + 1))) = true := beq_iff_eq.mpr c8
         have c8b1 : (((rd_T68 l0 x5_1).f1.f2) != (wrap64 ((wrap64 ((wrap64 (x1_1 + 1)) + 1)) + 1))) = false := bne_eq_false_iff_eq.mpr c8
         clear c8
         by_cases c9 : ((rd_T68 l0 x5_1).f1.f3) = (wrap64 ((wrap64 ((wrap64 ((wrap64 (x1_1 + 1)) + 1)) + 1)) + 1))
         ·rw [if_pos c9] at H
          have c9b0 : (((rd_T68 l0 x5_1).f1.f3) == (wrap64 ((wrap64 ((wrap64 ((wrap64 (x1_1 + 1)) + 1)) + 1)) + 1))) = true := beq_iff_eq.mpr c9
          have c9b1 : (((rd_T68 l0 x5_1).f1.f3) != (wrap64 ((wrap64 ((wrap64 ((wrap64 (x1_1 + 1)) + 1)) + 1)) + 1))) = false := bne_eq_false_iff_eq.mpr c9
          clear c9
          replace H := Option.bind_eq_some_iff.mp H
          obtain ⟨t361, A100, H⟩ := H
          replace H : (if ((rd_T68 l0 x5_1).f1.f4).toList = t361.toList then (laws_heldItemS.l0 k1 l0 (wrap64 ((wrap64 ((wrap64 ((wrap64 ((wrap64 ((wrap64 (x1_1 + 1)) + 1)) + 1)) + 1)) + 1)) + 1)) (wrap64 (x5_1 + 1))) else (some (-1))) = some r := H
          have A10 := zm A100
          clear A100
          by_cases c11 : ((rd_T68 l0 x5_1).f1.f4).toList = t361.toList
          ·rw [if_pos c11] at H
           have c11b0 : (((rd_T68 l0 x5_1).f1.f4).toList == t361.toList) = true := beq_iff_eq.mpr c11
           have c11b1 : (((rd_T68 l0 x5_1).f1.f4).toList != t361.toList) = false := bne_eq_false_iff_eq.mpr c11
           clear c11
           have H' := zm H
           clear H
           have p355 : 0 ≤ (x5_1 : Int) := zd
           have q355 : x5_1 < (l0.length : Int) := zd
           obtain ⟨ad355, e355, hx355_0, hx355_1, hx355_2, hx355_3, hx355_4, hx355_5⟩ := at_T68 (Kd.C_below HR0.out HB.out) x5_1 p355 q355
           cases e355
           replace p355 := eq_true p355
           replace q355 := eq_true q355
           have p356 : 0 ≤ (x5_1 : Int) := zd
           have q356 : x5_1 < (l0.length : Int) := zd
           obtain ⟨ad356, e356, hx356_0, hx356_1, hx356_2, hx356_3, hx356_4, hx356_5⟩ := at_T68 (Kd.C_below HR0.out HB.out) x5_1 p356 q356
           obtain rfl : ad355 = ad356 := (by injection e356)
           replace p356 := eq_true p356
           replace q356 := eq_true q356
           have p357 : 0 ≤ (x5_1 : Int) := zd
           have q357 : x5_1 < (l0.length : Int) := zd
           obtain ⟨ad357, e357, hx357_0, hx357_1, hx357_2, hx357_3, hx357_4, hx357_5⟩ := at_T68 (Kd.C_below HR0.out HB.out) x5_1 p357 q357
           obtain rfl : ad355 = ad357 := (by injection e357)
           replace p357 := eq_true p357
           replace q357 := eq_true q357
           have p358 : 0 ≤ (x5_1 : Int) := zd
           have q358 : x5_1 < (l0.length : Int) := zd
           obtain ⟨ad358, e358, hx358_0, hx358_1, hx358_2, hx358_3, hx358_4, hx358_5⟩ := at_T68 (Kd.C_below HR0.out HB.out) x5_1 p358 q358
           obtain rfl : ad355 = ad358 := (by injection e358)
           replace p358 := eq_true p358
           replace q358 := eq_true q358
           have p359 : 0 ≤ (x5_1 : Int) := zd
           have q359 : x5_1 < (l0.length : Int) := zd
           obtain ⟨ad359, e359, hx359_0, hx359_1, hx359_2, hx359_3, hx359_4, hx359_5⟩ := at_T68 (Kd.C_below HR0.out HB.out) x5_1 p359 q359
           obtain rfl : ad355 = ad359 := (by injection e359)
           replace p359 := eq_true p359
           replace q359 := eq_true q359
           try go_wp2
           replace HB := zm (below_drew1 HB.out)
           have p360 : 0 ≤ (x5_1 : Int) := zd
           have q360 : x5_1 < (l0.length : Int) := zd
           obtain ⟨ad360, e360, hx360_0, hx360_1, hx360_2, hx360_3, hx360_4, hx360_5⟩ := at_T68 HR0.out x5_1 p360 q360
           have hw360_5 := hx360_5
           have hw360_4 := hx360_4
           have hw360_3 := hx360_3
           have hw360_2 := hx360_2
           have hw360_1 := hx360_1
           have hw360_0 := hx360_0
           obtain rfl : ad355 = ad360 := (by injection e360)
           replace hx360_0 := (HB.out.cell (World.block_lt_of_cell? w _ hx360_0)).trans hx360_0
           replace hx360_1 := (HB.out.cell (World.block_lt_of_cell? w _ hx360_1)).trans hx360_1
           replace hx360_2 := (HB.out.cell (World.block_lt_of_cell? w _ hx360_2)).trans hx360_2
           replace hx360_3 := (HB.out.cell (World.block_lt_of_cell? w _ hx360_3)).trans hx360_3
           replace hx360_4 := (HB.out.cell (World.block_lt_of_cell? w _ hx360_4)).trans hx360_4
           replace hx360_5 := (HB.out.cell (World.block_lt_of_cell? w _ hx360_5)).trans hx360_5
           replace p360 := eq_true p360
           replace q360 := eq_true q360
           refine start_ (n := 9) (S := fun w' => w'.cell? (ad355.add ((x5_1).toNat * 6)) = some (.int .i64 ((rd_T68 l0 x5_1).f0)) ∧ w'.cell? ⟨(ad355.add ((x5_1).toNat * 6)).block, (ad355.add ((x5_1).toNat * 6)).off + 1, none⟩ = some (.int .i64 ((rd_T68 l0 x5_1).f1.f0)) ∧ w'.cell? ⟨(ad355.add ((x5_1).toNat * 6)).block, (ad355.add ((x5_1).toNat * 6)).off + 2, none⟩ = some (.int .i64 ((rd_T68 l0 x5_1).f1.f1)) ∧ w'.cell? ⟨(ad355.add ((x5_1).toNat * 6)).block, (ad355.add ((x5_1).toNat * 6)).off + 3, none⟩ = some (.int .i64 ((rd_T68 l0 x5_1).f1.f2)) ∧ w'.cell? ⟨(ad355.add ((x5_1).toNat * 6)).block, (ad355.add ((x5_1).toNat * 6)).off + 4, none⟩ = some (.int .i64 ((rd_T68 l0 x5_1).f1.f3)) ∧ w'.cell? ⟨(ad355.add ((x5_1).toNat * 6)).block, (ad355.add ((x5_1).toNat * 6)).off + 5, none⟩ = some (.string ((rd_T68 l0 x5_1).f1.f4))) (ds := []) (zl 9 0) (by kernel_rfl) rfl rfl ⟨((HB.out.cell (World.block_lt_of_cell? w _ hw360_0)).trans hw360_0), ((HB.out.cell (World.block_lt_of_cell? w _ hw360_1)).trans hw360_1), ((HB.out.cell (World.block_lt_of_cell? w _ hw360_2)).trans hw360_2), ((HB.out.cell (World.block_lt_of_cell? w _ hw360_3)).trans hw360_3), ((HB.out.cell (World.block_lt_of_cell? w _ hw360_4)).trans hw360_4), ((HB.out.cell (World.block_lt_of_cell? w _ hw360_5)).trans hw360_5)⟩ (fun hHeld => ?_); refine with_tabW laws_heldItemS.tab19 laws_heldItemS.bits19 (fun HT_ HW_ => ?_)
           generalize wr.drew = w12 at HB hx360_0 hx360_1 hx360_2 hx360_3 hx360_4 hx360_5 hHeld ⊢
           refine zp 0 (some 61) (zl 9 1) ?_
           refine zp 1 (some 62) (zl 9 3) ?_
           refine zp 2 (some 63) (zl 9 7) ?_
           refine zp 3 (some 64) (zl 9 15) ?_
           refine zp 4 (some 65) (zl 9 31) ?_
           refine zp 6 (some 67) (zl 9 95) ?_
           refine zt 5 (some 66) (zl 9 127) ?_
           refine zo 7 (some 68) (zl 9 255) (fun K hK => ?_)
           refine zgo #[.int .i64 (wrap64 ((wrap64 ((wrap64 ((wrap64 ((wrap64 (x1_1 + 1)) + 1)) + 1)) + 1)) + 1))] Try.func98 ?_
           with_reducible refine (laws_markText.calls k1 (wrap64 ((wrap64 ((wrap64 ((wrap64 ((wrap64 (x1_1 + 1)) + 1)) + 1)) + 1)) + 1)) t361 _ A10.out).mono ?_
           rintro e w13 ⟨rfl, hb⟩
           refine ⟨_, rfl, ?_⟩
           replace HB := zm (below_step zB hb)
           (try clear hb)
           (try clear hb2)
           (try clear hk)
           (try clear hi)
           refine hK.out _ _ ⟨((HB.out.cell (World.block_lt_of_cell? w _ hw360_0)).trans hw360_0), ((HB.out.cell (World.block_lt_of_cell? w _ hw360_1)).trans hw360_1), ((HB.out.cell (World.block_lt_of_cell? w _ hw360_2)).trans hw360_2), ((HB.out.cell (World.block_lt_of_cell? w _ hw360_3)).trans hw360_3), ((HB.out.cell (World.block_lt_of_cell? w _ hw360_4)).trans hw360_4), ((HB.out.cell (World.block_lt_of_cell? w _ hw360_5)).trans hw360_5)⟩ (fun hHeld => ?_)
           clear hK K
           refine zn ?_
           refine zp 8 (some 69) (zl 9 511) ?_
           refine done_ (done_of HT_.out (by kernel_rfl)) ?_
           try go_wp2
           go_roundg k1
           case measure => have := HK1.out; omega
           case rel => exact ⟨(wrap64 ((wrap64 ((wrap64 ((wrap64 ((wrap64 ((wrap64 (x1_1 + 1)) + 1)) + 1)) + 1)) + 1)) + 1)), (wrap64 (x5_1 + 1)), zF, zF, H', ⟨by have := HK1.out; omega⟩, ⟨zB⟩⟩
          ·rw [if_neg c11] at H
           have c11b0 : (((rd_T68 l0 x5_1).f1.f4).toList == t361.toList) = false := beq_eq_false_iff_ne.mpr c11
           have c11b1 : (((rd_T68 l0 x5_1).f1.f4).toList != t361.toList) = true := bne_iff_ne.mpr c11
           obtain rfl := Option.some.inj H
           have p355 : 0 ≤ (x5_1 : Int) := zd
           have q355 : x5_1 < (l0.length : Int) := zd
           obtain ⟨ad355, e355, hx355_0, hx355_1, hx355_2, hx355_3, hx355_4, hx355_5⟩ := at_T68 (Kd.C_below HR0.out HB.out) x5_1 p355 q355
           cases e355
           replace p355 := eq_true p355
           replace q355 := eq_true q355
           have p356 : 0 ≤ (x5_1 : Int) := zd
           have q356 : x5_1 < (l0.length : Int) := zd
           obtain ⟨ad356, e356, hx356_0, hx356_1, hx356_2, hx356_3, hx356_4, hx356_5⟩ := at_T68 (Kd.C_below HR0.out HB.out) x5_1 p356 q356
           obtain rfl : ad355 = ad356 := (by injection e356)
           replace p356 := eq_true p356
           replace q356 := eq_true q356
           have p357 : 0 ≤ (x5_1 : Int) := zd
           have q357 : x5_1 < (l0.length : Int) := zd
           obtain ⟨ad357, e357, hx357_0, hx357_1, hx357_2, hx357_3, hx357_4, hx357_5⟩ := at_T68 (Kd.C_below HR0.out HB.out) x5_1 p357 q357
           obtain rfl : ad355 = ad357 := (by injection e357)
           replace p357 := eq_true p357
           replace q357 := eq_true q357
           have p358 : 0 ≤ (x5_1 : Int) := zd
           have q358 : x5_1 < (l0.length : Int) := zd
           obtain ⟨ad358, e358, hx358_0, hx358_1, hx358_2, hx358_3, hx358_4, hx358_5⟩ := at_T68 (Kd.C_below HR0.out HB.out) x5_1 p358 q358
           obtain rfl : ad355 = ad358 := (by injection e358)
           replace p358 := eq_true p358
           replace q358 := eq_true q358
           have p359 : 0 ≤ (x5_1 : Int) := zd
           have q359 : x5_1 < (l0.length : Int) := zd
           obtain ⟨ad359, e359, hx359_0, hx359_1, hx359_2, hx359_3, hx359_4, hx359_5⟩ := at_T68 (Kd.C_below HR0.out HB.out) x5_1 p359 q359
           obtain rfl : ad355 = ad359 := (by injection e359)
           replace p359 := eq_true p359
           replace q359 := eq_true q359
           try go_wp2
           replace HB := zm (below_drew1 HB.out)
           have p360 : 0 ≤ (x5_1 : Int) := zd
           have q360 : x5_1 < (l0.length : Int) := zd
           obtain ⟨ad360, e360, hx360_0, hx360_1, hx360_2, hx360_3, hx360_4, hx360_5⟩ := at_T68 HR0.out x5_1 p360 q360
           have hw360_5 := hx360_5
           have hw360_4 := hx360_4
           have hw360_3 := hx360_3
           have hw360_2 := hx360_2
           have hw360_1 := hx360_1
           have hw360_0 := hx360_0
           obtain rfl : ad355 = ad360 := (by injection e360)
           replace hx360_0 := (HB.out.cell (World.block_lt_of_cell? w _ hx360_0)).trans hx360_0
           replace hx360_1 := (HB.out.cell (World.block_lt_of_cell? w _ hx360_1)).trans hx360_1
           replace hx360_2 := (HB.out.cell (World.block_lt_of_cell? w _ hx360_2)).trans hx360_2
           replace hx360_3 := (HB.out.cell (World.block_lt_of_cell? w _ hx360_3)).trans hx360_3
           replace hx360_4 := (HB.out.cell (World.block_lt_of_cell? w _ hx360_4)).trans hx360_4
           replace hx360_5 := (HB.out.cell (World.block_lt_of_cell? w _ hx360_5)).trans hx360_5
           replace p360 := eq_true p360
           replace q360 := eq_true q360
           refine start_ (n := 9) (S := fun w' => w'.cell? (ad355.add ((x5_1).toNat * 6)) = some (.int .i64 ((rd_T68 l0 x5_1).f0)) ∧ w'.cell? ⟨(ad355.add ((x5_1).toNat * 6)).block, (ad355.add ((x5_1).toNat * 6)).off + 1, none⟩ = some (.int .i64 ((rd_T68 l0 x5_1).f1.f0)) ∧ w'.cell? ⟨(ad355.add ((x5_1).toNat * 6)).block, (ad355.add ((x5_1).toNat * 6)).off + 2, none⟩ = some (.int .i64 ((rd_T68 l0 x5_1).f1.f1)) ∧ w'.cell? ⟨(ad355.add ((x5_1).toNat * 6)).block, (ad355.add ((x5_1).toNat * 6)).off + 3, none⟩ = some (.int .i64 ((rd_T68 l0 x5_1).f1.f2)) ∧ w'.cell? ⟨(ad355.add ((x5_1).toNat * 6)).block, (ad355.add ((x5_1).toNat * 6)).off + 4, none⟩ = some (.int .i64 ((rd_T68 l0 x5_1).f1.f3)) ∧ w'.cell? ⟨(ad355.add ((x5_1).toNat * 6)).block, (ad355.add ((x5_1).toNat * 6)).off + 5, none⟩ = some (.string ((rd_T68 l0 x5_1).f1.f4))) (ds := []) (zl 9 0) (by kernel_rfl) rfl rfl ⟨((HB.out.cell (World.block_lt_of_cell? w _ hw360_0)).trans hw360_0), ((HB.out.cell (World.block_lt_of_cell? w _ hw360_1)).trans hw360_1), ((HB.out.cell (World.block_lt_of_cell? w _ hw360_2)).trans hw360_2), ((HB.out.cell (World.block_lt_of_cell? w _ hw360_3)).trans hw360_3), ((HB.out.cell (World.block_lt_of_cell? w _ hw360_4)).trans hw360_4), ((HB.out.cell (World.block_lt_of_cell? w _ hw360_5)).trans hw360_5)⟩ (fun hHeld => ?_); refine with_tabW laws_heldItemS.tab19 laws_heldItemS.bits19 (fun HT_ HW_ => ?_)
           generalize wr.drew = w14 at HB hx360_0 hx360_1 hx360_2 hx360_3 hx360_4 hx360_5 hHeld ⊢
           refine zp 0 (some 61) (zl 9 1) ?_
           refine zp 1 (some 62) (zl 9 3) ?_
           refine zp 2 (some 63) (zl 9 7) ?_
           refine zp 3 (some 64) (zl 9 15) ?_
           refine zp 4 (some 65) (zl 9 31) ?_
           refine zp 6 (some 67) (zl 9 95) ?_
           refine zt 5 (some 66) (zl 9 127) ?_
           refine zo 7 (some 68) (zl 9 255) (fun K hK => ?_)
           refine zgo #[.int .i64 (wrap64 ((wrap64 ((wrap64 ((wrap64 ((wrap64 (x1_1 + 1)) + 1)) + 1)) + 1)) + 1))] Try.func98 ?_
           with_reducible refine (laws_markText.calls k1 (wrap64 ((wrap64 ((wrap64 ((wrap64 ((wrap64 (x1_1 + 1)) + 1)) + 1)) + 1)) + 1)) t361 _ A10.out).mono ?_
           rintro e w15 ⟨rfl, hb⟩
           refine ⟨_, rfl, ?_⟩
           replace HB := zm (below_step zB hb)
           (try clear hb)
           (try clear hb2)
           (try clear hk)
           (try clear hi)
           refine hK.out _ _ ⟨((HB.out.cell (World.block_lt_of_cell? w _ hw360_0)).trans hw360_0), ((HB.out.cell (World.block_lt_of_cell? w _ hw360_1)).trans hw360_1), ((HB.out.cell (World.block_lt_of_cell? w _ hw360_2)).trans hw360_2), ((HB.out.cell (World.block_lt_of_cell? w _ hw360_3)).trans hw360_3), ((HB.out.cell (World.block_lt_of_cell? w _ hw360_4)).trans hw360_4), ((HB.out.cell (World.block_lt_of_cell? w _ hw360_5)).trans hw360_5)⟩ (fun hHeld => ?_)
           clear hK K
           refine zn ?_
           refine zp 8 (some 69) (zl 9 511) ?_
           refine done_ (done_of HT_.out (by kernel_rfl)) ?_
           try go_wp2
           go_ret
           exact ⟨zE, zB⟩
         ·rw [if_neg c9] at H
          have c9b0 : (((rd_T68 l0 x5_1).f1.f3) == (wrap64 ((wrap64 ((wrap64 ((wrap64 (x1_1 + 1)) + 1)) + 1)) + 1))) = false := beq_eq_false_iff_ne.mpr c9
          have c9b1 : (((rd_T68 l0 x5_1).f1.f3) != (wrap64 ((wrap64 ((wrap64 ((wrap64 (x1_1 + 1)) + 1)) + 1)) + 1))) = true := bne_iff_ne.mpr c9
          obtain rfl := Option.some.inj H
          have p355 : 0 ≤ (x5_1 : Int) := zd
          have q355 : x5_1 < (l0.length : Int) := zd
          obtain ⟨ad355, e355, hx355_0, hx355_1, hx355_2, hx355_3, hx355_4, hx355_5⟩ := at_T68 (Kd.C_below HR0.out HB.out) x5_1 p355 q355
          cases e355
          replace p355 := eq_true p355
          replace q355 := eq_true q355
          have p356 : 0 ≤ (x5_1 : Int) := zd
          have q356 : x5_1 < (l0.length : Int) := zd
          obtain ⟨ad356, e356, hx356_0, hx356_1, hx356_2, hx356_3, hx356_4, hx356_5⟩ := at_T68 (Kd.C_below HR0.out HB.out) x5_1 p356 q356
          obtain rfl : ad355 = ad356 := (by injection e356)
          replace p356 := eq_true p356
          replace q356 := eq_true q356
          have p357 : 0 ≤ (x5_1 : Int) := zd
          have q357 : x5_1 < (l0.length : Int) := zd
          obtain ⟨ad357, e357, hx357_0, hx357_1, hx357_2, hx357_3, hx357_4, hx357_5⟩ := at_T68 (Kd.C_below HR0.out HB.out) x5_1 p357 q357
          obtain rfl : ad355 = ad357 := (by injection e357)
          replace p357 := eq_true p357
          replace q357 := eq_true q357
          have p358 : 0 ≤ (x5_1 : Int) := zd
          have q358 : x5_1 < (l0.length : Int) := zd
          obtain ⟨ad358, e358, hx358_0, hx358_1, hx358_2, hx358_3, hx358_4, hx358_5⟩ := at_T68 (Kd.C_below HR0.out HB.out) x5_1 p358 q358
          obtain rfl : ad355 = ad358 := (by injection e358)
          replace p358 := eq_true p358
          replace q358 := eq_true q358
          have p359 : 0 ≤ (x5_1 : Int) := zd
          have q359 : x5_1 < (l0.length : Int) := zd
          obtain ⟨ad359, e359, hx359_0, hx359_1, hx359_2, hx359_3, hx359_4, hx359_5⟩ := at_T68 (Kd.C_below HR0.out HB.out) x5_1 p359 q359
          obtain rfl : ad355 = ad359 := (by injection e359)
          replace p359 := eq_true p359
          replace q359 := eq_true q359
          go_wp2
          go_ret
          exact ⟨zE, zB⟩
        ·rw [if_neg c8] at H
         have c8b0 : (((rd_T68 l0 x5_1).f1.f2) == (wrap64 ((wrap64 ((wrap64 (x1_1 + 1)) + 1)) + 1))) = false := beq_eq_false_iff_ne.mpr c8
         have c8b1 : (((rd_T68 l0 x5_1).f1.f2) != (wrap64 ((wrap64 ((wrap64 (x1_1 + 1)) + 1)) + 1))) = true := bne_iff_ne.mpr c8
         obtain rfl := Option.some.inj H
         have p355 : 0 ≤ (x5_1 : Int) := zd
         have q355 : x5_1 < (l0.length : Int) := zd
         obtain ⟨ad355, e355, hx355_0, hx355_1, hx355_2, hx355_3, hx355_4, hx355_5⟩ := at_T68 (Kd.C_below HR0.out HB.out) x5_1 p355 q355
         cases e355
         replace p355 := eq_true p355
         replace q355 := eq_true q355
         have p356 : 0 ≤ (x5_1 : Int) := zd
         have q356 : x5_1 < (l0.length : Int) := zd
         obtain ⟨ad356, e356, hx356_0, hx356_1, hx356_2, hx356_3, hx356_4, hx356_5⟩ := at_T68 (Kd.C_below HR0.out HB.out) x5_1 p356 q356
         obtain rfl : ad355 = ad356 := (by injection e356)
         replace p356 := eq_true p356
         replace q356 := eq_true q356
         have p357 : 0 ≤ (x5_1 : Int) := zd
         have q357 : x5_1 < (l0.length : Int) := zd
         obtain ⟨ad357, e357, hx357_0, hx357_1, hx357_2, hx357_3, hx357_4, hx357_5⟩ := at_T68 (Kd.C_below HR0.out HB.out) x5_1 p357 q357
         obtain rfl : ad355 = ad357 := (by injection e357)
         replace p357 := eq_true p357
         replace q357 := eq_true q357
         have p358 : 0 ≤ (x5_1 : Int) := zd
         have q358 : x5_1 < (l0.length : Int) := zd
         obtain ⟨ad358, e358, hx358_0, hx358_1, hx358_2, hx358_3, hx358_4, hx358_5⟩ := at_T68 (Kd.C_below HR0.out HB.out) x5_1 p358 q358
         obtain rfl : ad355 = ad358 := (by injection e358)
         replace p358 := eq_true p358
         replace q358 := eq_true q358
         go_wp2
         go_ret
         exact ⟨zE, zB⟩
       ·rw [if_neg c7] at H
        have c7b0 : (((rd_T68 l0 x5_1).f1.f1) == (wrap64 ((wrap64 (x1_1 + 1)) + 1))) = false := beq_eq_false_iff_ne.mpr c7
        have c7b1 : (((rd_T68 l0 x5_1).f1.f1) != (wrap64 ((wrap64 (x1_1 + 1)) + 1))) = true := bne_iff_ne.mpr c7
        obtain rfl := Option.some.inj H
        have p355 : 0 ≤ (x5_1 : Int) := zd
        have q355 : x5_1 < (l0.length : Int) := zd
        obtain ⟨ad355, e355, hx355_0, hx355_1, hx355_2, hx355_3, hx355_4, hx355_5⟩ := at_T68 (Kd.C_below HR0.out HB.out) x5_1 p355 q355
        cases e355
        replace p355 := eq_true p355
        replace q355 := eq_true q355
        have p356 : 0 ≤ (x5_1 : Int) := zd
        have q356 : x5_1 < (l0.length : Int) := zd
        obtain ⟨ad356, e356, hx356_0, hx356_1, hx356_2, hx356_3, hx356_4, hx356_5⟩ := at_T68 (Kd.C_below HR0.out HB.out) x5_1 p356 q356
        obtain rfl : ad355 = ad356 := (by injection e356)
        replace p356 := eq_true p356
        replace q356 := eq_true q356
        have p357 : 0 ≤ (x5_1 : Int) := zd
        have q357 : x5_1 < (l0.length : Int) := zd
        obtain ⟨ad357, e357, hx357_0, hx357_1, hx357_2, hx357_3, hx357_4, hx357_5⟩ := at_T68 (Kd.C_below HR0.out HB.out) x5_1 p357 q357
        obtain rfl : ad355 = ad357 := (by injection e357)
        replace p357 := eq_true p357
        replace q357 := eq_true q357
        go_wp2
        go_ret
        exact ⟨zE, zB⟩
      ·rw [if_neg c6] at H
       have c6b0 : (((rd_T68 l0 x5_1).f1.f0) == (wrap64 (x1_1 + 1))) = false := beq_eq_false_iff_ne.mpr c6
       have c6b1 : (((rd_T68 l0 x5_1).f1.f0) != (wrap64 (x1_1 + 1))) = true := bne_iff_ne.mpr c6
       obtain rfl := Option.some.inj H
       have p355 : 0 ≤ (x5_1 : Int) := zd
       have q355 : x5_1 < (l0.length : Int) := zd
       obtain ⟨ad355, e355, hx355_0, hx355_1, hx355_2, hx355_3, hx355_4, hx355_5⟩ := at_T68 (Kd.C_below HR0.out HB.out) x5_1 p355 q355
       cases e355
       replace p355 := eq_true p355
       replace q355 := eq_true q355
       have p356 : 0 ≤ (x5_1 : Int) := zd
       have q356 : x5_1 < (l0.length : Int) := zd
       obtain ⟨ad356, e356, hx356_0, hx356_1, hx356_2, hx356_3, hx356_4, hx356_5⟩ := at_T68 (Kd.C_below HR0.out HB.out) x5_1 p356 q356
       obtain rfl : ad355 = ad356 := (by injection e356)
       replace p356 := eq_true p356
       replace q356 := eq_true q356
       go_wp2
       go_ret
       exact ⟨zE, zB⟩
     ·rw [if_neg c5] at H
      have c5b0 : (((rd_T68 l0 x5_1).f0) == x1_1) = false := beq_eq_false_iff_ne.mpr c5
      have c5b1 : (((rd_T68 l0 x5_1).f0) != x1_1) = true := bne_iff_ne.mpr c5
      obtain rfl := Option.some.inj H
      have p355 : 0 ≤ (x5_1 : Int) := zd
      have q355 : x5_1 < (l0.length : Int) := zd
      obtain ⟨ad355, e355, hx355_0, hx355_1, hx355_2, hx355_3, hx355_4, hx355_5⟩ := at_T68 (Kd.C_below HR0.out HB.out) x5_1 p355 q355
      cases e355
      replace p355 := eq_true p355
      replace q355 := eq_true q355
      go_wp2
      go_ret
      exact ⟨zE, zB⟩
    ·rw [if_neg c4] at H
     exact absurd H (by simp)
   ·rw [if_neg c3] at H
    have c3b0 : decide (x5_1 < (l0.length : Int)) = false := decide_eq_false c3
    clear c3
    obtain rfl := Option.some.inj H
    go_wp2
    go_ret
    exact ⟨zE, zB⟩

/-! ### laws_heldFloorS: function 71 -/
def laws_heldFloorS.l0 : Nat → List (S72) → Int → Int → Option (Int)
 | 0, _, _, _ => none
 | k + 1, x0, x1, x5 => if x5 < (x0.length : Int) then (if 0 ≤ x5 then (if ((rd_T72 x0 x5).f0) = x1 then (if ((rd_T72 x0 x5).f1) = (wrap64 (x1 + 1)) then (laws_heldFloorS.l0 k x0 (wrap64 ((wrap64 (x1 + 1)) + 1)) (wrap64 (x5 + 1))) else (some (-1))) else (some (-1))) else (none)) else (some x1)
def laws_heldFloorS.f (k : Nat) (l0 : List (S72)) (a1 : Int) : Option (Int) := laws_heldFloorS.l0 k l0 a1 0
theorem laws_heldFloorS.mono_l : ∀ k, (∀ y0 y1 y2, LeO (laws_heldFloorS.l0 k y0 y1 y2) (laws_heldFloorS.l0 (k + 1) y0 y1 y2))
 | 0 => fun _ _ _ r h => by simp [laws_heldFloorS.l0] at h
 | k + 1 => by
  have ih0 := laws_heldFloorS.mono_l k
  ·intro y0 y1 y2
   unfold laws_heldFloorS.l0
   repeat' first
   | (with_reducible exact ih0 _ _ _)
   | (with_reducible exact LeO.refl _)
   | (with_reducible exact LeO.none _)
   | (with_reducible refine LeO.ite ?_ ?_)
   | (with_reducible refine LeO.bind ?_ (fun _ => ?_))
   | exact ih0 _ _ _
   | exact LeO.none _
   | refine LeO.ite ?_ ?_
   | refine LeO.bind ?_ (fun _ => ?_)
theorem laws_heldFloorS.mono : ∀ a0 a1 k, LeO (laws_heldFloorS.f k a0 a1) (laws_heldFloorS.f (k + 1) a0 a1) := by
 intro a0 a1 k
 have ih0 := laws_heldFloorS.mono_l k
 unfold laws_heldFloorS.f
 repeat' first
   | (with_reducible exact ih0 _ _ _)
   | (with_reducible exact LeO.refl _)
   | (with_reducible exact LeO.none _)
   | (with_reducible refine LeO.ite ?_ ?_)
   | (with_reducible refine LeO.bind ?_ (fun _ => ?_))
   | exact ih0 _ _ _
   | exact LeO.none _
   | refine LeO.ite ?_ ?_
   | refine LeO.bind ?_ (fun _ => ?_)
set_option maxHeartbeats 8000000 in
set_option maxRecDepth 100000 in
theorem laws_heldFloorS.calls (k : Nat) (A0 : Option Addr) (c0 : Nat) (l0 : List (S72)) (a1 : Int) (r : Int) (w : World) (hr0 : Kd.C k72 w A0 l0.length l0) (hc0 : l0.length ≤ c0) (h : laws_heldFloorS.f k l0 a1 = some r) :
  Calls Try.prog 71 #[.slice A0 l0.length c0, .int .i64 a1] w fun e w' => e = .returned (.int .i64 r) ∧ Drawn0 w w' := by
 have HR0 := zm hr0
 have HC0 := zm hc0
 clear hr0 hc0
 have H : (laws_heldFloorS.l0 k l0 a1 0) = some r := h
 clear h
 have H' := zm H
 clear H
 go_enter Try.func71, Try.ntmps71
 go_wp2
 go_loopg [1, 5] k (fun kq v1 v5 w' => ∃ (x1_1 : Int) (x5_1 : Int), v1 = .int .i64 x1_1 ∧ v5 = .int .i64 x5_1 ∧ Aside0 (laws_heldFloorS.l0 kq l0 x1_1 x5_1 = some r) ∧ Aside0 (kq ≤ k) ∧ Drawn0 w w')
 case atStart => exact ⟨(a1), (0), zF, zF, H', ⟨Nat.le_refl _⟩, zD⟩
 case round =>
  clear H'
  try clear p2
  obtain ⟨x1_1, x5_1, rfl, rfl, HA, HK1, ⟨m1, rfl⟩⟩ := hrel
  cases gk with
  | zero => exact absurd HA.out (by simp [laws_heldFloorS.l0])
  | succ k1 =>
   have H := HA.out
   clear HA
   simp only [laws_heldFloorS.l0] at H
   by_cases c3 : x5_1 < (l0.length : Int)
   ·rw [if_pos c3] at H
    have c3b0 : decide (x5_1 < (l0.length : Int)) = true := decide_eq_true c3
    clear c3
    by_cases c4 : 0 ≤ x5_1
    ·rw [if_pos c4] at H
     have c4b0 : decide (0 ≤ x5_1) = true := decide_eq_true c4
     clear c4
     by_cases c5 : ((rd_T72 l0 x5_1).f0) = x1_1
     ·rw [if_pos c5] at H
      have c5b0 : (((rd_T72 l0 x5_1).f0) == x1_1) = true := beq_iff_eq.mpr c5
      have c5b1 : (((rd_T72 l0 x5_1).f0) != x1_1) = false := bne_eq_false_iff_eq.mpr c5
      clear c5
      by_cases c6 : ((rd_T72 l0 x5_1).f1) = (wrap64 (x1_1 + 1))
      ·rw [if_pos c6] at H
       have c6b0 : (((rd_T72 l0 x5_1).f1) == (wrap64 (x1_1 + 1))) = true := beq_iff_eq.mpr c6
       have c6b1 : (((rd_T72 l0 x5_1).f1) != (wrap64 (x1_1 + 1))) = false := bne_eq_false_iff_eq.mpr c6
       clear c6
       have H' := zm H
       clear H
       have p362 : 0 ≤ (x5_1 : Int) := zd
       have q362 : x5_1 < (l0.length : Int) := zd
       obtain ⟨ad362, e362, hx362_0, hx362_1⟩ := at_T72 HR0.out x5_1 p362 q362
       cases e362
       replace p362 := eq_true p362
       replace q362 := eq_true q362
       have p363 : 0 ≤ (x5_1 : Int) := zd
       have q363 : x5_1 < (l0.length : Int) := zd
       obtain ⟨ad363, e363, hx363_0, hx363_1⟩ := at_T72 HR0.out x5_1 p363 q363
       obtain rfl : ad362 = ad363 := (by injection e363)
       replace p363 := eq_true p363
       replace q363 := eq_true q363
       go_wp2
       go_roundg k1
       case measure => have := HK1.out; omega
       case rel => exact ⟨(wrap64 ((wrap64 (x1_1 + 1)) + 1)), (wrap64 (x5_1 + 1)), zF, zF, H', ⟨by have := HK1.out; omega⟩, zD⟩
      ·rw [if_neg c6] at H
       have c6b0 : (((rd_T72 l0 x5_1).f1) == (wrap64 (x1_1 + 1))) = false := beq_eq_false_iff_ne.mpr c6
       have c6b1 : (((rd_T72 l0 x5_1).f1) != (wrap64 (x1_1 + 1))) = true := bne_iff_ne.mpr c6
       obtain rfl := Option.some.inj H
       have p362 : 0 ≤ (x5_1 : Int) := zd
       have q362 : x5_1 < (l0.length : Int) := zd
       obtain ⟨ad362, e362, hx362_0, hx362_1⟩ := at_T72 HR0.out x5_1 p362 q362
       cases e362
       replace p362 := eq_true p362
       replace q362 := eq_true q362
       have p363 : 0 ≤ (x5_1 : Int) := zd
       have q363 : x5_1 < (l0.length : Int) := zd
       obtain ⟨ad363, e363, hx363_0, hx363_1⟩ := at_T72 HR0.out x5_1 p363 q363
       obtain rfl : ad362 = ad363 := (by injection e363)
       replace p363 := eq_true p363
       replace q363 := eq_true q363
       go_wp2
       go_ret
       exact ⟨zF, zD⟩
     ·rw [if_neg c5] at H
      have c5b0 : (((rd_T72 l0 x5_1).f0) == x1_1) = false := beq_eq_false_iff_ne.mpr c5
      have c5b1 : (((rd_T72 l0 x5_1).f0) != x1_1) = true := bne_iff_ne.mpr c5
      obtain rfl := Option.some.inj H
      have p362 : 0 ≤ (x5_1 : Int) := zd
      have q362 : x5_1 < (l0.length : Int) := zd
      obtain ⟨ad362, e362, hx362_0, hx362_1⟩ := at_T72 HR0.out x5_1 p362 q362
      cases e362
      replace p362 := eq_true p362
      replace q362 := eq_true q362
      go_wp2
      go_ret
      exact ⟨zF, zD⟩
    ·rw [if_neg c4] at H
     exact absurd H (by simp)
   ·rw [if_neg c3] at H
    have c3b0 : decide (x5_1 < (l0.length : Int)) = false := decide_eq_false c3
    clear c3
    obtain rfl := Option.some.inj H
    go_wp2
    go_ret
    exact ⟨zF, zD⟩

/-! ### laws_heldState: function 26 -/
def laws_heldState.f (k : Nat) (l0_0 : List (S68)) (l0_1 : List (S72)) (a1 : Int) : Option (Int) := (laws_heldItemS.f k l0_0 a1).bind fun t365 => (if t365 < 0 then (some (-1)) else ((laws_heldFloorS.f k l0_1 t365).bind fun t366 => (if t366 < 0 then (some (-1)) else (some t366))))
theorem laws_heldState.mono : ∀ a0 a1 a2 k, LeO (laws_heldState.f k a0 a1 a2) (laws_heldState.f (k + 1) a0 a1 a2) := by
 intro a0 a1 a2 k
 unfold laws_heldState.f
 repeat' first
   | (with_reducible exact laws_heldFloorS.mono _ _ _)
   | (with_reducible exact laws_heldItemS.mono _ _ _)
   | (with_reducible exact LeO.refl _)
   | (with_reducible exact LeO.none _)
   | (with_reducible refine LeO.ite ?_ ?_)
   | (with_reducible refine LeO.bind ?_ (fun _ => ?_))
   | exact laws_heldFloorS.mono _ _ _
   | exact laws_heldItemS.mono _ _ _
   | exact LeO.none _
   | refine LeO.ite ?_ ?_
   | refine LeO.bind ?_ (fun _ => ?_)
set_option maxHeartbeats 8000000 in
set_option maxRecDepth 100000 in
theorem laws_heldState.calls (k : Nat) (A0_0 : Option Addr) (c0_0 : Nat) (l0_0 : List (S68)) (A0_1 : Option Addr) (c0_1 : Nat) (l0_1 : List (S72)) (a1 : Int) (r : Int) (w : World) (hr0_0 : Kd.C k68 w A0_0 l0_0.length l0_0) (hc0_0 : l0_0.length ≤ c0_0) (hr0_1 : Kd.C k72 w A0_1 l0_1.length l0_1) (hc0_1 : l0_1.length ≤ c0_1) (h : laws_heldState.f k l0_0 l0_1 a1 = some r) :
  Calls Try.prog 26 #[.agg #[.slice A0_0 l0_0.length c0_0, .slice A0_1 l0_1.length c0_1], .int .i64 a1] w fun e w' => e = .returned (.int .i64 r) ∧ Below w.heap.size w w' := by
 have hu32 := Try.underlying32
 have HR0_0 := zm hr0_0
 have HC0_0 := zm hc0_0
 clear hr0_0 hc0_0
 have HR0_1 := zm hr0_1
 have HC0_1 := zm hc0_1
 clear hr0_1 hc0_1
 have HB := zm (Below.refl w.heap.size w)
 have H : ((laws_heldItemS.f k l0_0 a1).bind fun t365 => (if t365 < 0 then (some (-1)) else ((laws_heldFloorS.f k l0_1 t365).bind fun t366 => (if t366 < 0 then (some (-1)) else (some t366))))) = some r := h
 clear h
 replace H := Option.bind_eq_some_iff.mp H
 obtain ⟨t365, A30, H⟩ := H
 replace H : (if t365 < 0 then (some (-1)) else ((laws_heldFloorS.f k l0_1 t365).bind fun t366 => (if t366 < 0 then (some (-1)) else (some t366)))) = some r := H
 have A3 := zm A30
 clear A30
 by_cases c4 : t365 < 0
 ·rw [if_pos c4] at H
  have c4b0 : decide (t365 < 0) = true := decide_eq_true c4
  clear c4
  obtain rfl := Option.some.inj H
  go_enter Try.func26, Try.ntmps26
  go_wp2_with (first | ((with_reducible refine gate_dst (N := 2) rfl ?_); refine zbox 2 #[.slice A0_0 l0_0.length c0_0, .slice A0_1 l0_1.length c0_1] 32 ?_; intro gb364 hg w5 hbox hb; have BK364 := zm (hbox); have GW364 := zge w hg zB; have GE364 := zge w hg zB; replace HB := zm (below_step zB hb); clear hb hbox hg; have hcz6_0 : w5.cell? ⟨gb364, 0, none⟩ = some (.slice A0_0 l0_0.length c0_0) := (blk_cell BK364.out 0).trans rfl; have hcz6_1 : w5.cell? ⟨gb364, 1, none⟩ = some (.slice A0_1 l0_1.length c0_1) := (blk_cell BK364.out 1).trans rfl; have hfz6_0 := blk_frozen BK364.out 0; have hfz6_1 := blk_frozen BK364.out 1) | ((with_reducible refine gate_callee (f := 70) rfl ?_); refine zg (some 8) #[.slice A0_0 l0_0.length c0_0, .int .i64 a1] Try.func70 ?_; (with_reducible refine (laws_heldItemS.calls k _ _ l0_0 a1 t365 _ (zk (Kd.C_below HR0_0.out HB.out)) HC0_0.out A3.out).mono ?_); rintro e w7 ⟨rfl, hb⟩; refine ⟨_, rfl, ?_⟩; replace BK364 := zm (blk_below (zb BK364) hb); replace HB := zm (below_step zB hb); clear hb))
  go_ret
  exact ⟨zE, zB⟩
 ·rw [if_neg c4] at H
  have c4b0 : decide (t365 < 0) = false := decide_eq_false c4
  clear c4
  replace H := Option.bind_eq_some_iff.mp H
  obtain ⟨t366, A80, H⟩ := H
  replace H : (if t366 < 0 then (some (-1)) else (some t366)) = some r := H
  have A8 := zm A80
  clear A80
  by_cases c9 : t366 < 0
  ·rw [if_pos c9] at H
   have c9b0 : decide (t366 < 0) = true := decide_eq_true c9
   clear c9
   obtain rfl := Option.some.inj H
   go_enter Try.func26, Try.ntmps26
   go_wp2_with (first | ((with_reducible refine gate_dst (N := 2) rfl ?_); refine zbox 2 #[.slice A0_0 l0_0.length c0_0, .slice A0_1 l0_1.length c0_1] 32 ?_; intro gb364 hg w10 hbox hb; have BK364 := zm (hbox); have GW364 := zge w hg zB; have GE364 := zge w hg zB; replace HB := zm (below_step zB hb); clear hb hbox hg; have hcz11_0 : w10.cell? ⟨gb364, 0, none⟩ = some (.slice A0_0 l0_0.length c0_0) := (blk_cell BK364.out 0).trans rfl; have hcz11_1 : w10.cell? ⟨gb364, 1, none⟩ = some (.slice A0_1 l0_1.length c0_1) := (blk_cell BK364.out 1).trans rfl; have hfz11_0 := blk_frozen BK364.out 0; have hfz11_1 := blk_frozen BK364.out 1) | ((with_reducible refine gate_callee (f := 70) rfl ?_); refine zg (some 8) #[.slice A0_0 l0_0.length c0_0, .int .i64 a1] Try.func70 ?_; (with_reducible refine (laws_heldItemS.calls k _ _ l0_0 a1 t365 _ (zk (Kd.C_below HR0_0.out HB.out)) HC0_0.out A3.out).mono ?_); rintro e w12 ⟨rfl, hb⟩; refine ⟨_, rfl, ?_⟩; replace BK364 := zm (blk_below (zb BK364) hb); replace HB := zm (below_step zB hb); clear hb; have hcz13_0 : w12.cell? ⟨gb364, 0, none⟩ = some (.slice A0_0 l0_0.length c0_0) := (blk_cell BK364.out 0).trans rfl; have hcz13_1 : w12.cell? ⟨gb364, 1, none⟩ = some (.slice A0_1 l0_1.length c0_1) := (blk_cell BK364.out 1).trans rfl; have hfz13_0 := blk_frozen BK364.out 0; have hfz13_1 := blk_frozen BK364.out 1) | ((with_reducible refine gate_callee (f := 71) rfl ?_); refine zg (some 14) #[.slice A0_1 l0_1.length c0_1, .int .i64 t365] Try.func71 ?_; (with_reducible refine (laws_heldFloorS.calls k _ _ l0_1 t365 t366 _ (zk (Kd.C_below HR0_1.out HB.out)) HC0_1.out A8.out).mono ?_); rintro e w' ⟨rfl, ⟨nd, rfl⟩⟩; refine ⟨_, rfl, ?_⟩))
   go_ret
   exact ⟨zE, zB⟩
  ·rw [if_neg c9] at H
   have c9b0 : decide (t366 < 0) = false := decide_eq_false c9
   clear c9
   obtain rfl := Option.some.inj H
   go_enter Try.func26, Try.ntmps26
   go_wp2_with (first | ((with_reducible refine gate_dst (N := 2) rfl ?_); refine zbox 2 #[.slice A0_0 l0_0.length c0_0, .slice A0_1 l0_1.length c0_1] 32 ?_; intro gb364 hg w14 hbox hb; have BK364 := zm (hbox); have GW364 := zge w hg zB; have GE364 := zge w hg zB; replace HB := zm (below_step zB hb); clear hb hbox hg; have hcz15_0 : w14.cell? ⟨gb364, 0, none⟩ = some (.slice A0_0 l0_0.length c0_0) := (blk_cell BK364.out 0).trans rfl; have hcz15_1 : w14.cell? ⟨gb364, 1, none⟩ = some (.slice A0_1 l0_1.length c0_1) := (blk_cell BK364.out 1).trans rfl; have hfz15_0 := blk_frozen BK364.out 0; have hfz15_1 := blk_frozen BK364.out 1) | ((with_reducible refine gate_callee (f := 70) rfl ?_); refine zg (some 8) #[.slice A0_0 l0_0.length c0_0, .int .i64 a1] Try.func70 ?_; (with_reducible refine (laws_heldItemS.calls k _ _ l0_0 a1 t365 _ (zk (Kd.C_below HR0_0.out HB.out)) HC0_0.out A3.out).mono ?_); rintro e w16 ⟨rfl, hb⟩; refine ⟨_, rfl, ?_⟩; replace BK364 := zm (blk_below (zb BK364) hb); replace HB := zm (below_step zB hb); clear hb; have hcz17_0 : w16.cell? ⟨gb364, 0, none⟩ = some (.slice A0_0 l0_0.length c0_0) := (blk_cell BK364.out 0).trans rfl; have hcz17_1 : w16.cell? ⟨gb364, 1, none⟩ = some (.slice A0_1 l0_1.length c0_1) := (blk_cell BK364.out 1).trans rfl; have hfz17_0 := blk_frozen BK364.out 0; have hfz17_1 := blk_frozen BK364.out 1) | ((with_reducible refine gate_callee (f := 71) rfl ?_); refine zg (some 14) #[.slice A0_1 l0_1.length c0_1, .int .i64 t365] Try.func71 ?_; (with_reducible refine (laws_heldFloorS.calls k _ _ l0_1 t365 t366 _ (zk (Kd.C_below HR0_1.out HB.out)) HC0_1.out A8.out).mono ?_); rintro e w' ⟨rfl, ⟨nd, rfl⟩⟩; refine ⟨_, rfl, ?_⟩))
   go_ret
   exact ⟨zE, zB⟩

/-! ### spec_l1Bit: function 105 -/
def spec_l1Bit.f (a0 : Bool) : Option (Int) := if a0 = true then (some 1) else (some 0)
set_option maxHeartbeats 8000000 in
set_option maxRecDepth 100000 in
theorem spec_l1Bit.calls (a0 : Bool) (r : Int) (w : World) (h : spec_l1Bit.f a0 = some r) :
  Calls Try.prog 105 #[.bool a0] w fun e w' => e = .returned (.int .i64 r) ∧ Drawn0 w w' := by
 have H : (if a0 = true then (some 1) else (some 0)) = some r := h
 clear h
 by_cases c2 : a0 = true
 ·subst c2
  have H1 : (some 1) = some r := by rw [if_pos rfl] at H; exact H
  clear H
  have H := H1
  clear H1
  obtain rfl := Option.some.inj H
  go_enter Try.func105, Try.ntmps105
  go_wp2
  go_ret
  exact ⟨zF, zD⟩
 ·replace c2 := Bool.eq_false_iff.mpr c2
  subst c2
  have H1 : (some 0) = some r := by rw [if_neg (show ¬ (false = true) by decide)] at H; exact H
  clear H
  have H := H1
  clear H1
  obtain rfl := Option.some.inj H
  go_enter Try.func105, Try.ntmps105
  go_wp2
  go_ret
  exact ⟨zF, zD⟩

/-! ### spec_l2Cmp: function 104 -/
def spec_l2Cmp.f (a0 : Int) (a1 : Int) : Option (Int) := if a0 < a1 then (some (-1)) else ((spec_l1Bit.f (decide (a0 > a1))).bind fun t430 => (some t430))
set_option maxHeartbeats 8000000 in
set_option maxRecDepth 100000 in
theorem spec_l2Cmp.calls (a0 : Int) (a1 : Int) (r : Int) (w : World) (h : spec_l2Cmp.f a0 a1 = some r) :
  Calls Try.prog 104 #[.int .i64 a0, .int .i64 a1] w fun e w' => e = .returned (.int .i64 r) ∧ Drawn0 w w' := by
 have H : (if a0 < a1 then (some (-1)) else ((spec_l1Bit.f (decide (a0 > a1))).bind fun t430 => (some t430))) = some r := h
 clear h
 by_cases c3 : a0 < a1
 ·rw [if_pos c3] at H
  have c3b0 : decide (a0 < a1) = true := decide_eq_true c3
  clear c3
  obtain rfl := Option.some.inj H
  go_enter Try.func104, Try.ntmps104
  go_wp2
  go_ret
  exact ⟨zF, zD⟩
 ·rw [if_neg c3] at H
  have c3b0 : decide (a0 < a1) = false := decide_eq_false c3
  clear c3
  replace H := Option.bind_eq_some_iff.mp H
  obtain ⟨t430, A40, H⟩ := H
  replace H : (some t430) = some r := H
  have A4 := zm A40
  clear A40
  obtain rfl := Option.some.inj H
  go_enter Try.func104, Try.ntmps104
  go_wp2_with (first | ((with_reducible refine gate_callee (f := 105) rfl ?_); refine zg (some 11) #[.bool (decide (a0 > a1))] Try.func105 ?_; (with_reducible refine (spec_l1Bit.calls (decide (a0 > a1)) t430 _ A4.out).mono ?_); rintro e w' ⟨rfl, ⟨nd, rfl⟩⟩; refine ⟨_, rfl, ?_⟩))
  go_ret
  exact ⟨zF, zD⟩

/-! ### spec_EntryCmp: function 79 -/
def spec_EntryCmp.l0 : Nat → List Int → Int → Int → Int → Int → Int → ByteArray → Int → Int → Int → Int → ByteArray → Option (Int)
 | 0, _, _, _, _, _, _, _, _, _, _, _, _ => none
 | k + 1, x5, x6, x432000, x432001, x432002, x432003, x432004, x433000, x433001, x433002, x433003, x433004 => if x6 < (x5.length : Int) then (if 0 ≤ x6 then (if (rd x5 x6) = 0 then (spec_EntryCmp.l0 k x5 (wrap64 (x6 + 1)) x432000 x432001 x432002 x432003 x432004 x433000 x433001 x433002 x433003 x433004) else (some (rd x5 x6))) else (none)) else (if (Op.bytesLess x432004.toList x433004.toList) = true then (some (-1)) else ((spec_l1Bit.f (!(x432004.toList == x433004.toList))).bind fun t442 => (some t442)))
def spec_EntryCmp.f (k : Nat) (a0_0 : Int) (a0_1 : Int) (a0_2 : Int) (a0_3 : Int) (a0_4 : ByteArray) (a1_0 : Int) (a1_1 : Int) (a1_2 : Int) (a1_3 : Int) (a1_4 : ByteArray) : Option (Int) := (spec_l2Cmp.f a0_0 a1_0).bind fun t433 => ((spec_l2Cmp.f a0_1 a1_1).bind fun t434 => ((spec_l2Cmp.f a0_2 a1_2).bind fun t435 => ((spec_l2Cmp.f a0_3 a1_3).bind fun t436 => (spec_EntryCmp.l0 k (([t433, t434, t435, t436] : List Int)) 0 a0_0 a0_1 a0_2 a0_3 a0_4 a1_0 a1_1 a1_2 a1_3 a1_4))))
theorem spec_EntryCmp.mono_l : ∀ k, (∀ y0 y1 y2 y3 y4 y5 y6 y7 y8 y9 y10 y11, LeO (spec_EntryCmp.l0 k y0 y1 y2 y3 y4 y5 y6 y7 y8 y9 y10 y11) (spec_EntryCmp.l0 (k + 1) y0 y1 y2 y3 y4 y5 y6 y7 y8 y9 y10 y11))
 | 0 => fun _ _ _ _ _ _ _ _ _ _ _ _ r h => by simp [spec_EntryCmp.l0] at h
 | k + 1 => by
  have ih0 := spec_EntryCmp.mono_l k
  ·intro y0 y1 y2 y3 y4 y5 y6 y7 y8 y9 y10 y11
   unfold spec_EntryCmp.l0
   repeat' first
   | (with_reducible exact ih0 _ _ _ _ _ _ _ _ _ _ _ _)
   | (with_reducible exact LeO.refl _)
   | (with_reducible exact LeO.none _)
   | (with_reducible refine LeO.ite ?_ ?_)
   | (with_reducible refine LeO.bind ?_ (fun _ => ?_))
   | exact ih0 _ _ _ _ _ _ _ _ _ _ _ _
   | exact LeO.none _
   | refine LeO.ite ?_ ?_
   | refine LeO.bind ?_ (fun _ => ?_)
theorem spec_EntryCmp.mono : ∀ a0 a1 a2 a3 a4 a5 a6 a7 a8 a9 k, LeO (spec_EntryCmp.f k a0 a1 a2 a3 a4 a5 a6 a7 a8 a9) (spec_EntryCmp.f (k + 1) a0 a1 a2 a3 a4 a5 a6 a7 a8 a9) := by
 intro a0 a1 a2 a3 a4 a5 a6 a7 a8 a9 k
 have ih0 := spec_EntryCmp.mono_l k
 unfold spec_EntryCmp.f
 repeat' first
   | (with_reducible exact ih0 _ _ _ _ _ _ _ _ _ _ _ _)
   | (with_reducible exact LeO.refl _)
   | (with_reducible exact LeO.none _)
   | (with_reducible refine LeO.ite ?_ ?_)
   | (with_reducible refine LeO.bind ?_ (fun _ => ?_))
   | exact ih0 _ _ _ _ _ _ _ _ _ _ _ _
   | exact LeO.none _
   | refine LeO.ite ?_ ?_
   | refine LeO.bind ?_ (fun _ => ?_)
def spec_EntryCmp.T1 : Bool × List (List Nat × List Nat) := (true, [([], []), ([0], [0]), ([], []), ([2], [2]), ([1, 3], [1, 3]), ([], []), ([5], [5]), ([], []), ([7], [7]), ([6, 8, 4], [6, 8]), ([], []), ([10], [10]), ([], []), ([12], [12]), ([11, 13, 9], [11, 13]), ([], []), ([15], [15]), ([], []), ([17], [17]), ([16, 18, 14], [16, 18]), ([4, 9, 14, 19], [4, 9, 14, 19]), ([20, 19, 0, 1, 2, 3, 4, 5, 6, 7, 8, 9, 10, 11, 12, 13, 14, 15, 16, 17, 18, 19, 20], [20])])
def spec_EntryCmp.B1 : List Nat := [0, 1, 0, 4, 15, 0, 32, 0, 128, 511, 0, 1024, 0, 4096, 16383, 0, 32768, 0, 131072, 524287, 1048575, 2097151]
theorem spec_EntryCmp.tab1 : rtab .any (opsOf Try.f79 1) = spec_EntryCmp.T1 := by kernel_rfl
theorem spec_EntryCmp.bits1 : waitsOk spec_EntryCmp.T1.2 spec_EntryCmp.B1 = true := by kernel_rfl
set_option maxHeartbeats 8000000 in
set_option maxRecDepth 100000 in
theorem spec_EntryCmp.calls (k : Nat) (a0_0 : Int) (a0_1 : Int) (a0_2 : Int) (a0_3 : Int) (a0_4 : ByteArray) (a1_0 : Int) (a1_1 : Int) (a1_2 : Int) (a1_3 : Int) (a1_4 : ByteArray) (r : Int) (w : World) (h : spec_EntryCmp.f k a0_0 a0_1 a0_2 a0_3 a0_4 a1_0 a1_1 a1_2 a1_3 a1_4 = some r) :
  Calls Try.prog 79 #[.agg #[.int .i64 a0_0, .int .i64 a0_1, .int .i64 a0_2, .int .i64 a0_3, .string a0_4], .agg #[.int .i64 a1_0, .int .i64 a1_1, .int .i64 a1_2, .int .i64 a1_3, .string a1_4]] w fun e w' => e = .returned (.int .i64 r) ∧ Below w.heap.size w w' := by
 have hu66 := Try.underlying66
 have HB := zm (Below.refl w.heap.size w)
 have H : ((spec_l2Cmp.f a0_0 a1_0).bind fun t433 => ((spec_l2Cmp.f a0_1 a1_1).bind fun t434 => ((spec_l2Cmp.f a0_2 a1_2).bind fun t435 => ((spec_l2Cmp.f a0_3 a1_3).bind fun t436 => (spec_EntryCmp.l0 k (([t433, t434, t435, t436] : List Int)) 0 a0_0 a0_1 a0_2 a0_3 a0_4 a1_0 a1_1 a1_2 a1_3 a1_4))))) = some r := h
 clear h
 replace H := Option.bind_eq_some_iff.mp H
 obtain ⟨t433, A30, H⟩ := H
 replace H : ((spec_l2Cmp.f a0_1 a1_1).bind fun t434 => ((spec_l2Cmp.f a0_2 a1_2).bind fun t435 => ((spec_l2Cmp.f a0_3 a1_3).bind fun t436 => (spec_EntryCmp.l0 k (([t433, t434, t435, t436] : List Int)) 0 a0_0 a0_1 a0_2 a0_3 a0_4 a1_0 a1_1 a1_2 a1_3 a1_4)))) = some r := H
 have A3 := zm A30
 clear A30
 replace H := Option.bind_eq_some_iff.mp H
 obtain ⟨t434, A40, H⟩ := H
 replace H : ((spec_l2Cmp.f a0_2 a1_2).bind fun t435 => ((spec_l2Cmp.f a0_3 a1_3).bind fun t436 => (spec_EntryCmp.l0 k (([t433, t434, t435, t436] : List Int)) 0 a0_0 a0_1 a0_2 a0_3 a0_4 a1_0 a1_1 a1_2 a1_3 a1_4))) = some r := H
 have A4 := zm A40
 clear A40
 replace H := Option.bind_eq_some_iff.mp H
 obtain ⟨t435, A50, H⟩ := H
 replace H : ((spec_l2Cmp.f a0_3 a1_3).bind fun t436 => (spec_EntryCmp.l0 k (([t433, t434, t435, t436] : List Int)) 0 a0_0 a0_1 a0_2 a0_3 a0_4 a1_0 a1_1 a1_2 a1_3 a1_4)) = some r := H
 have A5 := zm A50
 clear A50
 replace H := Option.bind_eq_some_iff.mp H
 obtain ⟨t436, A60, H⟩ := H
 replace H : (spec_EntryCmp.l0 k (([t433, t434, t435, t436] : List Int)) 0 a0_0 a0_1 a0_2 a0_3 a0_4 a1_0 a1_1 a1_2 a1_3 a1_4) = some r := H
 have A6 := zm A60
 clear A60
 obtain ⟨y437, hy437⟩ : ∃ y_ : List Int, y_ = (([t433, t434, t435, t436] : List Int)) := ⟨_, rfl⟩
 replace H : (spec_EntryCmp.l0 k y437 0 a0_0 a0_1 a0_2 a0_3 a0_4 a1_0 a1_1 a1_2 a1_3 a1_4) = some r := by first | (rw [hy437]; with_reducible exact H) | (have H2_ := (Option.bind_some _ _).symm.trans H; rw [hy437]; with_reducible exact H2_) | (have H2_ := (Option.bind_some _ _).symm.trans H; with_reducible exact H2_) | with_reducible exact H | (rw [hy437]; exact H) | exact H
 have Ny437 := zm hy437
 clear hy437
 have H' := zm H
 clear H
 go_enter Try.func79, Try.ntmps79
 try go_wp2_with (first | ((with_reducible refine gate_dst (N := 2) rfl ?_); refine zbox 2 #[.int .i64 a0_0, .int .i64 a0_1, .int .i64 a0_2, .int .i64 a0_3, .string a0_4] 66 ?_; intro gb431 hg w7 hbox hb; have BK431 := zm (hbox); have GW431 := zge w hg zB; have GE431 := zge w hg zB; replace HB := zm (below_step zB hb); clear hb hbox hg) | ((with_reducible refine gate_dst (N := 3) rfl ?_); refine zbox 3 #[.int .i64 a1_0, .int .i64 a1_1, .int .i64 a1_2, .int .i64 a1_3, .string a1_4] 66 ?_; intro gb432 hg w8 hbox hb; have BK432 := zm (hbox); have GW432 := zge w hg zB; have GE432 := zge w hg zB; replace HB := zm (below_step zB hb); have NB431_432 := zlt hg (zb BK431); have NB432_431 := zgt hg (zb BK431); replace BK431 := zm (blk_below (zb BK431) hb); clear hb hbox hg))
 replace BK431 := zm (blk_drew BK431.out)
 replace BK432 := zm (blk_drew BK432.out)
 replace HB := zm (below_drew1 HB.out)
 refine start_ (n := 22) (S := fun w' => w'.cell? ⟨gb431, 0, none⟩ = some (.int .i64 a0_0) ∧ w'.cell? ⟨gb431, 1, none⟩ = some (.int .i64 a0_1) ∧ w'.cell? ⟨gb431, 2, none⟩ = some (.int .i64 a0_2) ∧ w'.cell? ⟨gb431, 3, none⟩ = some (.int .i64 a0_3) ∧ w'.cell? ⟨gb431, 4, none⟩ = some (.string a0_4) ∧ w'.cell? ⟨gb432, 0, none⟩ = some (.int .i64 a1_0) ∧ w'.cell? ⟨gb432, 1, none⟩ = some (.int .i64 a1_1) ∧ w'.cell? ⟨gb432, 2, none⟩ = some (.int .i64 a1_2) ∧ w'.cell? ⟨gb432, 3, none⟩ = some (.int .i64 a1_3) ∧ w'.cell? ⟨gb432, 4, none⟩ = some (.string a1_4)) (ds := []) (zl 22 0) (by kernel_rfl) rfl rfl ⟨(blk_cell BK431.out 0).trans rfl, (blk_cell BK431.out 1).trans rfl, (blk_cell BK431.out 2).trans rfl, (blk_cell BK431.out 3).trans rfl, (blk_cell BK431.out 4).trans rfl, (blk_cell BK432.out 0).trans rfl, (blk_cell BK432.out 1).trans rfl, (blk_cell BK432.out 2).trans rfl, (blk_cell BK432.out 3).trans rfl, (blk_cell BK432.out 4).trans rfl⟩ (fun hHeld => ?_); refine with_tabW spec_EntryCmp.tab1 spec_EntryCmp.bits1 (fun HT_ HW_ => ?_)
 generalize w8.drew = w9 at BK431 BK432 HB hHeld ⊢
 refine zp 0 (some 7) (zl 22 1) ?_
 refine zp 2 (some 9) (zl 22 5) ?_
 refine zp 5 (some 12) (zl 22 37) ?_
 refine zp 7 (some 14) (zl 22 165) ?_
 refine zp 10 (some 17) (zl 22 1189) ?_
 refine zp 12 (some 19) (zl 22 5285) ?_
 refine zp 15 (some 22) (zl 22 38053) ?_
 refine zp 17 (some 24) (zl 22 169125) ?_
 refine zt 1 (some 8) (zl 22 169127) ?_
 refine zt 3 (some 10) (zl 22 169135) ?_
 refine zt 6 (some 13) (zl 22 169199) ?_
 refine zt 8 (some 15) (zl 22 169455) ?_
 refine zt 11 (some 18) (zl 22 171503) ?_
 refine zt 13 (some 20) (zl 22 179695) ?_
 refine zt 16 (some 23) (zl 22 245231) ?_
 refine zt 18 (some 25) (zl 22 507375) ?_
 refine zo 4 (some 11) (zl 22 507391) (fun K hK => ?_)
 refine zgo #[.int .i64 a0_0, .int .i64 a1_0] Try.func104 ?_
 with_reducible refine (spec_l2Cmp.calls a0_0 a1_0 t433 _ A3.out).mono ?_
 rintro e w' ⟨rfl, ⟨nd, rfl⟩⟩
 refine ⟨_, rfl, ?_⟩
 refine hK.out _ _ ⟨(blk_cell BK431.out 0).trans rfl, (blk_cell BK431.out 1).trans rfl, (blk_cell BK431.out 2).trans rfl, (blk_cell BK431.out 3).trans rfl, (blk_cell BK431.out 4).trans rfl, (blk_cell BK432.out 0).trans rfl, (blk_cell BK432.out 1).trans rfl, (blk_cell BK432.out 2).trans rfl, (blk_cell BK432.out 3).trans rfl, (blk_cell BK432.out 4).trans rfl⟩ (fun hHeld => ?_)
 clear hK K
 refine zn ?_
 refine zo 9 (some 16) (zl 22 507903) (fun K hK => ?_)
 refine zgo #[.int .i64 a0_1, .int .i64 a1_1] Try.func104 ?_
 with_reducible refine (spec_l2Cmp.calls a0_1 a1_1 t434 _ A4.out).mono ?_
 rintro e w' ⟨rfl, ⟨nd, rfl⟩⟩
 refine ⟨_, rfl, ?_⟩
 refine hK.out _ _ ⟨(blk_cell BK431.out 0).trans rfl, (blk_cell BK431.out 1).trans rfl, (blk_cell BK431.out 2).trans rfl, (blk_cell BK431.out 3).trans rfl, (blk_cell BK431.out 4).trans rfl, (blk_cell BK432.out 0).trans rfl, (blk_cell BK432.out 1).trans rfl, (blk_cell BK432.out 2).trans rfl, (blk_cell BK432.out 3).trans rfl, (blk_cell BK432.out 4).trans rfl⟩ (fun hHeld => ?_)
 clear hK K
 refine zn ?_
 refine zo 14 (some 21) (zl 22 524287) (fun K hK => ?_)
 refine zgo #[.int .i64 a0_2, .int .i64 a1_2] Try.func104 ?_
 with_reducible refine (spec_l2Cmp.calls a0_2 a1_2 t435 _ A5.out).mono ?_
 rintro e w' ⟨rfl, ⟨nd, rfl⟩⟩
 refine ⟨_, rfl, ?_⟩
 refine hK.out _ _ ⟨(blk_cell BK431.out 0).trans rfl, (blk_cell BK431.out 1).trans rfl, (blk_cell BK431.out 2).trans rfl, (blk_cell BK431.out 3).trans rfl, (blk_cell BK431.out 4).trans rfl, (blk_cell BK432.out 0).trans rfl, (blk_cell BK432.out 1).trans rfl, (blk_cell BK432.out 2).trans rfl, (blk_cell BK432.out 3).trans rfl, (blk_cell BK432.out 4).trans rfl⟩ (fun hHeld => ?_)
 clear hK K
 refine zn ?_
 refine zo 19 (some 26) (zl 22 1048575) (fun K hK => ?_)
 refine zgo #[.int .i64 a0_3, .int .i64 a1_3] Try.func104 ?_
 with_reducible refine (spec_l2Cmp.calls a0_3 a1_3 t436 _ A6.out).mono ?_
 rintro e w' ⟨rfl, ⟨nd, rfl⟩⟩
 refine ⟨_, rfl, ?_⟩
 refine hK.out _ _ ⟨(blk_cell BK431.out 0).trans rfl, (blk_cell BK431.out 1).trans rfl, (blk_cell BK431.out 2).trans rfl, (blk_cell BK431.out 3).trans rfl, (blk_cell BK431.out 4).trans rfl, (blk_cell BK432.out 0).trans rfl, (blk_cell BK432.out 1).trans rfl, (blk_cell BK432.out 2).trans rfl, (blk_cell BK432.out 3).trans rfl, (blk_cell BK432.out 4).trans rfl⟩ (fun hHeld => ?_)
 clear hK K
 refine zn ?_
 refine zo 20 (some 27) (zl 22 2097151) (fun K hK => ?_)
 refine Kd.R_lit_step (Kd.int .i64) _ 3 ?hg (N := 27) ?hd (xs := ([t433, t434, t435, t436] : List Int)) (inner := [.int .i64 t433, .int .i64 t434, .int .i64 t435, .int .i64 t436]) (ok := fun _ => True) (okp := fun _ => True) ?hr ?hp (fun _ hk => hk) trivial (Below.refl _ _) (Nat.le_refl _) (by simp) ?_; (case hd => rfl); (case hg => rfl); (case hr => first | (go_simp; done) | (go_simp; rfl)); (case hp => exact (Reps.one (show Kd.M (Kd.int .i64) _ _ _ t433 [.int .i64 t433] from rfl) (Reps.one (show Kd.M (Kd.int .i64) _ _ _ t434 [.int .i64 t434] from rfl) (Reps.one (show Kd.M (Kd.int .i64) _ _ _ t435 [.int .i64 t435] from rfl) (Reps.one (show Kd.M (Kd.int .i64) _ _ _ t436 [.int .i64 t436] from rfl) (Reps.none _ _))))))
 intro v438 w10 ho11 hb hg_ hnew_
 clear hg_ hnew_
 (first | rw [← Ny437.out] at ho11 | (simp only [Int.reduceToNat] at ho11; rw [← Ny437.out] at ho11))
 have HO439 := zm (Kd.R_lower ho11 (below_size zB))
 replace BK431 := zm (blk_below (zb BK431) hb)
 replace BK432 := zm (blk_below (zb BK432) hb)
 replace HB := zm (below_step zB hb)
 clear hb ho11
 refine hK.out _ _ ⟨(blk_cell BK431.out 0).trans rfl, (blk_cell BK431.out 1).trans rfl, (blk_cell BK431.out 2).trans rfl, (blk_cell BK431.out 3).trans rfl, (blk_cell BK431.out 4).trans rfl, (blk_cell BK432.out 0).trans rfl, (blk_cell BK432.out 1).trans rfl, (blk_cell BK432.out 2).trans rfl, (blk_cell BK432.out 3).trans rfl, (blk_cell BK432.out 4).trans rfl⟩ (fun hHeld => ?_)
 clear hK K
 refine zn ?_
 refine zp 21 (some 5) (zl 22 4194303) ?_
 refine done_ (done_of HT_.out (by kernel_rfl)) ?_
 try go_wp2
 go_loopg [6] k (fun kq v6 w' => ∃ (x6_1 : Int), v6 = .int .i64 x6_1 ∧ Aside0 (spec_EntryCmp.l0 kq y437 x6_1 a0_0 a0_1 a0_2 a0_3 a0_4 a1_0 a1_1 a1_2 a1_3 a1_4 = some r) ∧ Aside0 (kq ≤ k) ∧ Aside0 (Kd.R (Kd.int .i64) 3 w' w.heap.size (fun _ => True) v438 y437) ∧ Aside0 (w'.heap[gb431]? = some (.cells #[.int .i64 a0_0, .int .i64 a0_1, .int .i64 a0_2, .int .i64 a0_3, .string a0_4] 66 (0, 0))) ∧ Aside0 (w'.heap[gb432]? = some (.cells #[.int .i64 a1_0, .int .i64 a1_1, .int .i64 a1_2, .int .i64 a1_3, .string a1_4] 66 (0, 0))) ∧ Aside0 (Below w.heap.size w w'))
 case atStart => exact ⟨(0), zF, H', ⟨Nat.le_refl _⟩, ⟨zr HO439⟩, ⟨zb BK431⟩, ⟨zb BK432⟩, ⟨zB⟩⟩
 case round =>
  clear H'
  try clear c1
  try clear p2
  try clear c7
  try clear c10
  obtain ⟨x6_1, rfl, HA, HK1, HO_5, BK431, BK432, HB⟩ := hrel
  cases gk with
  | zero => exact absurd HA.out (by simp [spec_EntryCmp.l0])
  | succ k1 =>
   have H := HA.out
   clear HA
   simp only [spec_EntryCmp.l0] at H
   by_cases c12 : x6_1 < (y437.length : Int)
   ·rw [if_pos c12] at H
    have c12b0 : decide (x6_1 < (y437.length : Int)) = true := decide_eq_true c12
    clear c12
    by_cases c13 : 0 ≤ x6_1
    ·rw [if_pos c13] at H
     have c13b0 : decide (0 ≤ x6_1) = true := decide_eq_true c13
     clear c13
     by_cases c14 : (rd y437 x6_1) = 0
     ·rw [if_pos c14] at H
      have c14b0 : ((rd y437 x6_1) == 0) = true := beq_iff_eq.mpr c14
      have c14b1 : ((rd y437 x6_1) != 0) = false := bne_eq_false_iff_eq.mpr c14
      clear c14
      have H' := zm H
      clear H
      obtain ⟨Ao15, co15, eo15⟩ := Kd.R_slice HO_5.out
      subst eo15
      have p440 : 0 ≤ (x6_1 : Int) := zd
      have q440 : x6_1 < (y437.length : Int) := zd
      obtain ⟨ad440, e440, hx440_0⟩ := Kd.at_int (Kd.R_reads' HO_5.out).2.2 x6_1 p440 q440
      cases e440
      replace p440 := eq_true p440
      replace q440 := eq_true q440
      go_wp2
      go_roundg k1
      case measure => have := HK1.out; omega
      case rel => exact ⟨(wrap64 (x6_1 + 1)), zF, H', ⟨by have := HK1.out; omega⟩, ⟨zr HO_5⟩, ⟨zb BK431⟩, ⟨zb BK432⟩, ⟨zB⟩⟩
     ·rw [if_neg c14] at H
      have c14b0 : ((rd y437 x6_1) == 0) = false := beq_eq_false_iff_ne.mpr c14
      have c14b1 : ((rd y437 x6_1) != 0) = true := bne_iff_ne.mpr c14
      obtain rfl := Option.some.inj H
      obtain ⟨Ao16, co16, eo16⟩ := Kd.R_slice HO_5.out
      subst eo16
      have p440 : 0 ≤ (x6_1 : Int) := zd
      have q440 : x6_1 < (y437.length : Int) := zd
      obtain ⟨ad440, e440, hx440_0⟩ := Kd.at_int (Kd.R_reads' HO_5.out).2.2 x6_1 p440 q440
      cases e440
      replace p440 := eq_true p440
      replace q440 := eq_true q440
      have p441 : 0 ≤ (x6_1 : Int) := zd
      have q441 : x6_1 < (y437.length : Int) := zd
      obtain ⟨ad441, e441, hx441_0⟩ := Kd.at_int (Kd.R_reads' HO_5.out).2.2 x6_1 p441 q441
      obtain rfl : ad440 = ad441 := (by injection e441)
      replace p441 := eq_true p441
      replace q441 := eq_true q441
      go_wp2
      go_ret
      exact ⟨zE, zB⟩
    ·rw [if_neg c13] at H
     exact absurd H (by simp)
   ·rw [if_neg c12] at H
    have c12b0 : decide (x6_1 < (y437.length : Int)) = false := decide_eq_false c12
    clear c12
    by_cases c17 : (Op.bytesLess a0_4.toList a1_4.toList) = true
    ·rw [if_pos c17] at H
     have c17b0 : (Op.bytesLess a0_4.toList a1_4.toList) = true := c17
     clear c17
     obtain rfl := Option.some.inj H
     obtain ⟨Ao18, co18, eo18⟩ := Kd.R_slice HO_5.out
     subst eo18
     have hnb19 := NB431_432.out
     have hnc19 := NB432_431.out
     have hcz20_0 : wr.cell? ⟨gb431, 0, none⟩ = some (.int .i64 a0_0) := (blk_cell BK431.out 0).trans rfl
     have hcz20_1 : wr.cell? ⟨gb431, 1, none⟩ = some (.int .i64 a0_1) := (blk_cell BK431.out 1).trans rfl
     have hcz20_2 : wr.cell? ⟨gb431, 2, none⟩ = some (.int .i64 a0_2) := (blk_cell BK431.out 2).trans rfl
     have hcz20_3 : wr.cell? ⟨gb431, 3, none⟩ = some (.int .i64 a0_3) := (blk_cell BK431.out 3).trans rfl
     have hcz20_4 : wr.cell? ⟨gb431, 4, none⟩ = some (.string a0_4) := (blk_cell BK431.out 4).trans rfl
     have hfz20_0 := blk_frozen BK431.out 0
     have hfz20_1 := blk_frozen BK431.out 1
     have hfz20_2 := blk_frozen BK431.out 2
     have hfz20_3 := blk_frozen BK431.out 3
     have hfz20_4 := blk_frozen BK431.out 4
     have hcz21_0 : wr.cell? ⟨gb432, 0, none⟩ = some (.int .i64 a1_0) := (blk_cell BK432.out 0).trans rfl
     have hcz21_1 : wr.cell? ⟨gb432, 1, none⟩ = some (.int .i64 a1_1) := (blk_cell BK432.out 1).trans rfl
     have hcz21_2 : wr.cell? ⟨gb432, 2, none⟩ = some (.int .i64 a1_2) := (blk_cell BK432.out 2).trans rfl
     have hcz21_3 : wr.cell? ⟨gb432, 3, none⟩ = some (.int .i64 a1_3) := (blk_cell BK432.out 3).trans rfl
     have hcz21_4 : wr.cell? ⟨gb432, 4, none⟩ = some (.string a1_4) := (blk_cell BK432.out 4).trans rfl
     have hfz21_0 := blk_frozen BK432.out 0
     have hfz21_1 := blk_frozen BK432.out 1
     have hfz21_2 := blk_frozen BK432.out 2
     have hfz21_3 := blk_frozen BK432.out 3
     have hfz21_4 := blk_frozen BK432.out 4
     go_wp2
     go_ret
     exact ⟨zE, zB⟩
    ·rw [if_neg c17] at H
     have c17b0 : (Op.bytesLess a0_4.toList a1_4.toList) = false := by simpa using c17
     clear c17
     replace H := Option.bind_eq_some_iff.mp H
     obtain ⟨t442, A220, H⟩ := H
     replace H : (some t442) = some r := H
     have A22 := zm A220
     clear A220
     obtain rfl := Option.some.inj H
     obtain ⟨Ao23, co23, eo23⟩ := Kd.R_slice HO_5.out
     subst eo23
     have hnb24 := NB431_432.out
     have hnc24 := NB432_431.out
     have hcz25_0 : wr.cell? ⟨gb431, 0, none⟩ = some (.int .i64 a0_0) := (blk_cell BK431.out 0).trans rfl
     have hcz25_1 : wr.cell? ⟨gb431, 1, none⟩ = some (.int .i64 a0_1) := (blk_cell BK431.out 1).trans rfl
     have hcz25_2 : wr.cell? ⟨gb431, 2, none⟩ = some (.int .i64 a0_2) := (blk_cell BK431.out 2).trans rfl
     have hcz25_3 : wr.cell? ⟨gb431, 3, none⟩ = some (.int .i64 a0_3) := (blk_cell BK431.out 3).trans rfl
     have hcz25_4 : wr.cell? ⟨gb431, 4, none⟩ = some (.string a0_4) := (blk_cell BK431.out 4).trans rfl
     have hfz25_0 := blk_frozen BK431.out 0
     have hfz25_1 := blk_frozen BK431.out 1
     have hfz25_2 := blk_frozen BK431.out 2
     have hfz25_3 := blk_frozen BK431.out 3
     have hfz25_4 := blk_frozen BK431.out 4
     have hcz26_0 : wr.cell? ⟨gb432, 0, none⟩ = some (.int .i64 a1_0) := (blk_cell BK432.out 0).trans rfl
     have hcz26_1 : wr.cell? ⟨gb432, 1, none⟩ = some (.int .i64 a1_1) := (blk_cell BK432.out 1).trans rfl
     have hcz26_2 : wr.cell? ⟨gb432, 2, none⟩ = some (.int .i64 a1_2) := (blk_cell BK432.out 2).trans rfl
     have hcz26_3 : wr.cell? ⟨gb432, 3, none⟩ = some (.int .i64 a1_3) := (blk_cell BK432.out 3).trans rfl
     have hcz26_4 : wr.cell? ⟨gb432, 4, none⟩ = some (.string a1_4) := (blk_cell BK432.out 4).trans rfl
     have hfz26_0 := blk_frozen BK432.out 0
     have hfz26_1 := blk_frozen BK432.out 1
     have hfz26_2 := blk_frozen BK432.out 2
     have hfz26_3 := blk_frozen BK432.out 3
     have hfz26_4 := blk_frozen BK432.out 4
     go_wp2_with (first | ((with_reducible refine gate_callee (f := 105) rfl ?_); refine zg (some 53) #[.bool (!(a0_4.toList == a1_4.toList))] Try.func105 ?_; (with_reducible refine (spec_l1Bit.calls (!(a0_4.toList == a1_4.toList)) t442 _ A22.out).mono ?_); rintro e w' ⟨rfl, ⟨nd, rfl⟩⟩; refine ⟨_, rfl, ?_⟩))
     go_ret
     exact ⟨zE, zB⟩

end Go.Proofs.Ytgapdegniepjiaa.P
