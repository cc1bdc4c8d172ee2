-- by a program of this session, for this seat
import Derived.Test.YthljdiniccpobaaZ
import Derived.Test.YthljdiniccpobaaP0
import Derived.Test.YthljdiniccpobaaPaj
import Derived.Test.YthljdiniccpobaaPac
import Derived.Test.YthljdiniccpobaaPad
import Derived.Test.YthljdiniccpobaaPag
import Derived.Test.YthljdiniccpobaaPae
import Derived.Test.YthljdiniccpobaaPai
namespace Go.Proofs.Ythljdiniccpobaa.P
open Go.RowKit Go.Proofs.YthljdiniccpobaaW.PrintWords Go.Proofs.YthljdiniccpobaaW.PrintLast Go.Proofs.YthljdiniccpobaaW.PrintMore Go.Proofs.Ythljdiniccpobaa.Z
attribute [local go_sem] max2_int min2_int max_two min_two max_three min_three max_four min_four   -- for this text's walks alone
set_option linter.unusedVariables false
set_option linter.unusedSimpArgs false

/-! ### laws_heldItemS: function 58 -/
def laws_heldItemS.l0 : Nat → List (S84) → Int → Int → Option (Int)
 | 0, _, _, _ => none
 | k + 1, x0, x1, x5 => if x5 < (x0.length : Int) then (if 0 ≤ x5 then (if ((rd_T84 x0 x5).f0) = x1 then (if ((rd_T84 x0 x5).f1.f0) = (wrap64 (x1 + 1)) then (if ((rd_T84 x0 x5).f1.f1) = (wrap64 ((wrap64 (x1 + 1)) + 1)) then (if ((rd_T84 x0 x5).f1.f2) = (wrap64 ((wrap64 ((wrap64 (x1 + 1)) + 1)) + 1)) then (if ((rd_T84 x0 x5).f1.f3) = (wrap64 ((wrap64 ((wrap64 ((wrap64 (x1 + 1)) + 1)) + 1)) + 1)) then ((laws_markText.f k (wrap64 ((wrap64 ((wrap64 ((wrap64 ((wrap64 (x1 + 1)) + 1)) + 1)) + 1)) + 1))).bind fun t474 => (if ((rd_T84 x0 x5).f1.f4).toList = t474.toList then (laws_heldItemS.l0 k x0 (wrap64 ((wrap64 ((wrap64 ((wrap64 ((wrap64 ((wrap64 (x1 + 1)) + 1)) + 1)) + 1)) + 1)) + 1)) (wrap64 (x5 + 1))) else (some (-1)))) else (some (-1))) else (some (-1))) else (some (-1))) else (some (-1))) else (some (-1))) else (none)) else (some x1)
def laws_heldItemS.f (k : Nat) (l0 : List (S84)) (a1 : Int) : Option (Int) := laws_heldItemS.l0 k l0 a1 0
theorem laws_heldItemS.mono_l : ∀ k, (∀ y0 y1 y2, LeO (laws_heldItemS.l0 k y0 y1 y2) (laws_heldItemS.l0 (k + 1) y0 y1 y2))
 | 0 => fun _ _ _ r h => by simp [laws_heldItemS.l0] at h
 | k + 1 => by
  have ih0 := laws_heldItemS.mono_l k
  ·intro y0 y1 y2
   unfold laws_heldItemS.l0
   repeat' first
   | (with_reducible exact ih0 _ _ _)
   | (with_reducible exact laws_markText.mono _ _)
   | (with_reducible exact LeO.refl _)
   | (with_reducible exact LeO.none _)
   | (with_reducible refine LeO.ite ?_ ?_)
   | (with_reducible refine LeO.bind ?_ (fun _ => ?_))
   | exact ih0 _ _ _
   | exact laws_markText.mono _ _
   | exact LeO.none _
   | refine LeO.ite ?_ ?_
   | refine LeO.bind ?_ (fun _ => ?_)
theorem laws_heldItemS.mono : ∀ a0 a1 k, LeO (laws_heldItemS.f k a0 a1) (laws_heldItemS.f (k + 1) a0 a1) := by
 intro a0 a1 k
 have ih0 := laws_heldItemS.mono_l k
 unfold laws_heldItemS.f
 repeat' first
   | (with_reducible exact ih0 _ _ _)
   | (with_reducible exact laws_markText.mono _ _)
   | (with_reducible exact LeO.refl _)
   | (with_reducible exact LeO.none _)
   | (with_reducible refine LeO.ite ?_ ?_)
   | (with_reducible refine LeO.bind ?_ (fun _ => ?_))
   | exact ih0 _ _ _
   | exact laws_markText.mono _ _
   | exact LeO.none _
   | refine LeO.ite ?_ ?_
   | refine LeO.bind ?_ (fun _ => ?_)
def laws_heldItemS.T19 : Bool × List (List Nat × List Nat) := (true, [([], []), ([], []), ([0, 1], [0, 1]), ([2], [2]), ([3], [3]), ([4], [4]), ([], []), ([6], [6]), ([5, 7], [5, 7])])
def laws_heldItemS.B19 : List Nat := [0, 0, 3, 7, 15, 31, 0, 64, 255]
theorem laws_heldItemS.tab19 : rtab .any (opsOf Try.f58 19) = laws_heldItemS.T19 := by kernel_rfl
theorem laws_heldItemS.bits19 : waitsOk laws_heldItemS.T19.2 laws_heldItemS.B19 = true := by kernel_rfl
set_option maxHeartbeats 8000000 in
set_option maxRecDepth 100000 in
theorem laws_heldItemS.calls (k : Nat) (A0 : Option Addr) (c0 : Nat) (l0 : List (S84)) (a1 : Int) (r : Int) (w : World) (hr0 : Kd.C k84 w A0 l0.length l0) (hc0 : l0.length ≤ c0) (h : laws_heldItemS.f k l0 a1 = some r) :
  Calls Try.prog 58 #[.slice A0 l0.length c0, .int .i64 a1] w fun e w' => e = .returned (.int .i64 r) ∧ Below w.heap.size w w' := by
 have HR0 := zm hr0
 have HC0 := zm hc0
 clear hr0 hc0
 have HB := zm (Below.refl w.heap.size w)
 have H : (laws_heldItemS.l0 k l0 a1 0) = some r := h
 clear h
 have H' := zm H
 clear H
 go_enter Try.func58, Try.ntmps58
 go_wp2
 go_loopg [1, 5] k (fun kq v1 v5 w' => ∃ (x1_1 : Int) (x5_1 : Int), v1 = .int .i64 x1_1 ∧ v5 = .int .i64 x5_1 ∧ Aside0 (laws_heldItemS.l0 kq l0 x1_1 x5_1 = some r) ∧ Aside0 (kq ≤ k) ∧ Aside0 (Below w.heap.size w w'))
 case atStart => exact ⟨(a1), (0), zF, zF, H', ⟨Nat.le_refl _⟩, ⟨zB⟩⟩
 case round =>
  clear H'
  try clear p2
  obtain ⟨x1_1, x5_1, rfl, rfl, HA, HK1, HB⟩ := hrel
  cases gk with
  | zero => exact absurd HA.out (by simp [laws_heldItemS.l0])
  | succ k1 =>
   have H := HA.out
   clear HA
   simp only [laws_heldItemS.l0] at H
   by_cases c3 : x5_1 < (l0.length : Int)
   ·rw [if_pos c3] at H
    have c3b0 : decide (x5_1 < (l0.length : Int)) = true := decide_eq_true c3
    clear c3
    by_cases c4 : 0 ≤ x5_1
    ·rw [if_pos c4] at H
     have c4b0 : decide (0 ≤ x5_1) = true := decide_eq_true c4
     clear c4
     by_cases c5 : ((rd_T84 l0 x5_1).f0) = x1_1
     ·rw [if_pos c5] at H
      have c5b0 : (((rd_T84 l0 x5_1).f0) == x1_1) = true := beq_iff_eq.mpr c5
      have c5b1 : (((rd_T84 l0 x5_1).f0) != x1_1) = false := bne_eq_false_iff_eq.mpr c5
      clear c5
      by_cases c6 : ((rd_T84 l0 x5_1).f1.f0) = (wrap64 (x1_1 + 1))
      ·rw [if_pos c6] at H
       have c6b0 : (((rd_T84 l0 x5_1).f1.f0) == (wrap64 (x1_1 + 1))) = true := beq_iff_eq.mpr c6
       have c6b1 : (((rd_T84 l0 x5_1).f1.f0) != (wrap64 (x1_1 + 1))) = false := bne_eq_false_iff_eq.mpr c6
       clear c6
       by_cases c7 : ((rd_T84 l0 x5_1).f1.f1) = (wrap64 ((wrap64 (x1_1 + 1)) + 1))
       ·rw [if_pos c7] at H
        have c7b0 : (((rd_T84 l0 x5_1).f1.f1) == (wrap64 ((wrap64 (x1_1 + 1)) + 1))) = true := beq_iff_eq.mpr c7
        have c7b1 : (((rd_T84 l0 x5_1).f1.f1) != (wrap64 ((wrap64 (x1_1 + 1)) + 1))) = false := bne_eq_false_iff_eq.mpr c7
        clear c7
        by_cases c8 : ((rd_T84 l0 x5_1).f1.f2) = (wrap64 ((wrap64 ((wrap64 (x1_1 + 1)) + 1)) + 1))
        ·rw [if_pos c8] at H
         have c8b0 : (((rd_T84 l0 x5_1).f1.f2) == (wrap64 ((wrap64 ((wrap64 (x1_1 + 1)) + 1)) + 1))) = true := beq_iff_eq.mpr c8
         have c8b1 : (((rd_T84 l0 x5_1).f1.f2) != (wrap64 ((wrap64 ((wrap64 (x1_1 + 1)) + 1)) + 1))) = false := bne_eq_false_iff_eq.mpr c8
         clear c8
         by_cases c9 : ((rd_T84 l0 x5_1).f1.f3) = (wrap64 ((wrap64 ((wrap64 ((wrap64 (x1_1 + 1)) + 1)) + 1)) + 1))
         ·rw [if_pos c9] at H
          have c9b0 : (((rd_T84 l0 x5_1).f1.f3) == (wrap64 ((wrap64 ((wrap64 ((wrap64 (x1_1 + 1)) + 1)) + 1)) + 1))) = true := beq_iff_eq.mpr c9
          have c9b1 : (((rd_T84 l0 x5_1).f1.f3) != (wrap64 ((wrap64 ((wrap64 ((wrap64 (x1_1 + 1)) + 1)) + 1)) + 1))) = false := bne_eq_false_iff_eq.mpr c9
          clear c9
          replace H := Option.bind_eq_some_iff.mp H
          obtain ⟨t474, A100, H⟩ := H
          replace H : (if ((rd_T84 l0 x5_1).f1.f4).toList = t474.toList then (laws_heldItemS.l0 k1 l0 (wrap64 ((wrap64 ((wrap64 ((wrap64 ((wrap64 ((wrap64 (x1_1 + 1)) + 1)) + 1)) + 1)) + 1)) + 1)) (wrap64 (x5_1 + 1))) else (some (-1))) = some r := H
          have A10 := zm A100
          clear A100
          by_cases c11 : ((rd_T84 l0 x5_1).f1.f4).toList = t474.toList
          ·rw [if_pos c11] at H
           have c11b0 : (((rd_T84 l0 x5_1).f1.f4).toList == t474.toList) = true := beq_iff_eq.mpr c11
           have c11b1 : (((rd_T84 l0 x5_1).f1.f4).toList != t474.toList) = false := bne_eq_false_iff_eq.mpr c11
           clear c11
           have H' := zm H
           clear H
           have p468 : 0 ≤ (x5_1 : Int) := zd
           have q468 : x5_1 < (l0.length : Int) := zd
           obtain ⟨ad468, e468, hx468_0, hx468_1, hx468_2, hx468_3, hx468_4, hx468_5⟩ := at_T84 (Kd.C_below HR0.out HB.out) x5_1 p468 q468
           cases e468
           replace p468 := eq_true p468
           replace q468 := eq_true q468
           have p469 : 0 ≤ (x5_1 : Int) := zd
           have q469 : x5_1 < (l0.length : Int) := zd
           obtain ⟨ad469, e469, hx469_0, hx469_1, hx469_2, hx469_3, hx469_4, hx469_5⟩ := at_T84 (Kd.C_below HR0.out HB.out) x5_1 p469 q469
           obtain rfl : ad468 = ad469 := (by injection e469)
           replace p469 := eq_true p469
           replace q469 := eq_true q469
           have p470 : 0 ≤ (x5_1 : Int) := zd
           have q470 : x5_1 < (l0.length : Int) := zd
           obtain ⟨ad470, e470, hx470_0, hx470_1, hx470_2, hx470_3, hx470_4, hx470_5⟩ := at_T84 (Kd.C_below HR0.out HB.out) x5_1 p470 q470
           obtain rfl : ad468 = ad470 := (by injection e470)
           replace p470 := eq_true p470
           replace q470 := eq_true q470
           have p471 : 0 ≤ (x5_1 : Int) := zd
           have q471 : x5_1 < (l0.length : Int) := zd
           obtain ⟨ad471, e471, hx471_0, hx471_1, hx471_2, hx471_3, hx471_4, hx471_5⟩ := at_T84 (Kd.C_below HR0.out HB.out) x5_1 p471 q471
           obtain rfl : ad468 = ad471 := (by injection e471)
           replace p471 := eq_true p471
           replace q471 := eq_true q471
           have p472 : 0 ≤ (x5_1 : Int) := zd
           have q472 : x5_1 < (l0.length : Int) := zd
           obtain ⟨ad472, e472, hx472_0, hx472_1, hx472_2, hx472_3, hx472_4, hx472_5⟩ := at_T84 (Kd.C_below HR0.out HB.out) x5_1 p472 q472
           obtain rfl : ad468 = ad472 := (by injection e472)
           replace p472 := eq_true p472
           replace q472 := eq_true q472
           try go_wp2
           replace HB := zm (below_drew1 HB.out)
           have p473 : 0 ≤ (x5_1 : Int) := zd
           have q473 : x5_1 < (l0.length : Int) := zd
           obtain ⟨ad473, e473, hx473_0, hx473_1, hx473_2, hx473_3, hx473_4, hx473_5⟩ := at_T84 HR0.out x5_1 p473 q473
           have hw473_5 := hx473_5
           have hw473_4 := hx473_4
           have hw473_3 := hx473_3
           have hw473_2 := hx473_2
           have hw473_1 := hx473_1
           have hw473_0 := hx473_0
           obtain rfl : ad468 = ad473 := (by injection e473)
           replace hx473_0 := (HB.out.cell (World.block_lt_of_cell? w _ hx473_0)).trans hx473_0
           replace hx473_1 := (HB.out.cell (World.block_lt_of_cell? w _ hx473_1)).trans hx473_1
           replace hx473_2 := (HB.out.cell (World.block_lt_of_cell? w _ hx473_2)).trans hx473_2
           replace hx473_3 := (HB.out.cell (World.block_lt_of_cell? w _ hx473_3)).trans hx473_3
           replace hx473_4 := (HB.out.cell (World.block_lt_of_cell? w _ hx473_4)).trans hx473_4
           replace hx473_5 := (HB.out.cell (World.block_lt_of_cell? w _ hx473_5)).trans hx473_5
           replace p473 := eq_true p473
           replace q473 := eq_true q473
           refine start_ (n := 9) (S := fun w' => w'.cell? (ad468.add ((x5_1).toNat * 6)) = some (.int .i64 ((rd_T84 l0 x5_1).f0)) ∧ w'.cell? ⟨(ad468.add ((x5_1).toNat * 6)).block, (ad468.add ((x5_1).toNat * 6)).off + 1, none⟩ = some (.int .i64 ((rd_T84 l0 x5_1).f1.f0)) ∧ w'.cell? ⟨(ad468.add ((x5_1).toNat * 6)).block, (ad468.add ((x5_1).toNat * 6)).off + 2, none⟩ = some (.int .i64 ((rd_T84 l0 x5_1).f1.f1)) ∧ w'.cell? ⟨(ad468.add ((x5_1).toNat * 6)).block, (ad468.add ((x5_1).toNat * 6)).off + 3, none⟩ = some (.int .i64 ((rd_T84 l0 x5_1).f1.f2)) ∧ w'.cell? ⟨(ad468.add ((x5_1).toNat * 6)).block, (ad468.add ((x5_1).toNat * 6)).off + 4, none⟩ = some (.int .i64 ((rd_T84 l0 x5_1).f1.f3)) ∧ w'.cell? ⟨(ad468.add ((x5_1).toNat * 6)).block, (ad468.add ((x5_1).toNat * 6)).off + 5, none⟩ = some (.string ((rd_T84 l0 x5_1).f1.f4))) (ds := []) (zl 9 0) (by kernel_rfl) rfl rfl ⟨((HB.out.cell (World.block_lt_of_cell? w _ hw473_0)).trans hw473_0), ((HB.out.cell (World.block_lt_of_cell? w _ hw473_1)).trans hw473_1), ((HB.out.cell (World.block_lt_of_cell? w _ hw473_2)).trans hw473_2), ((HB.out.cell (World.block_lt_of_cell? w _ hw473_3)).trans hw473_3), ((HB.out.cell (World.block_lt_of_cell? w _ hw473_4)).trans hw473_4), ((HB.out.cell (World.block_lt_of_cell? w _ hw473_5)).trans hw473_5)⟩ (fun hHeld => ?_); refine with_tabW laws_heldItemS.tab19 laws_heldItemS.bits19 (fun HT_ HW_ => ?_)
           generalize wr.drew = w12 at HB hx473_0 hx473_1 hx473_2 hx473_3 hx473_4 hx473_5 hHeld ⊢
           refine zp 0 (some 61) (zl 9 1) ?_
           refine zp 1 (some 62) (zl 9 3) ?_
           refine zp 2 (some 63) (zl 9 7) ?_
           refine zp 3 (some 64) (zl 9 15) ?_
           refine zp 4 (some 65) (zl 9 31) ?_
           refine zp 6 (some 67) (zl 9 95) ?_
           refine zt 5 (some 66) (zl 9 127) ?_
           refine zo 7 (some 68) (zl 9 255) (fun K hK => ?_)
           refine zgo #[.int .i64 (wrap64 ((wrap64 ((wrap64 ((wrap64 ((wrap64 (x1_1 + 1)) + 1)) + 1)) + 1)) + 1))] Try.func87 ?_
           with_reducible refine (laws_markText.calls k1 (wrap64 ((wrap64 ((wrap64 ((wrap64 ((wrap64 (x1_1 + 1)) + 1)) + 1)) + 1)) + 1)) t474 _ A10.out).mono ?_
           rintro e w13 ⟨rfl, hb⟩
           refine ⟨_, rfl, ?_⟩
           replace HB := zm (below_step zB hb)
           (try clear hb)
           (try clear hb2)
           (try clear hk)
           (try clear hi)
           refine hK.out _ _ ⟨((HB.out.cell (World.block_lt_of_cell? w _ hw473_0)).trans hw473_0), ((HB.out.cell (World.block_lt_of_cell? w _ hw473_1)).trans hw473_1), ((HB.out.cell (World.block_lt_of_cell? w _ hw473_2)).trans hw473_2), ((HB.out.cell (World.block_lt_of_cell? w _ hw473_3)).trans hw473_3), ((HB.out.cell (World.block_lt_of_cell? w _ hw473_4)).trans hw473_4), ((HB.out.cell (World.block_lt_of_cell? w _ hw473_5)).trans hw473_5)⟩ (fun hHeld => ?_)
           clear hK K
           refine zn ?_
           refine zp 8 (some 69) (zl 9 511) ?_
           refine done_ (done_of HT_.out (by kernel_rfl)) ?_
           try go_wp2
           go_roundg k1
           case measure => have := HK1.out; omega
           case rel => exact ⟨(wrap64 ((wrap64 ((wrap64 ((wrap64 ((wrap64 ((wrap64 (x1_1 + 1)) + 1)) + 1)) + 1)) + 1)) + 1)), (wrap64 (x5_1 + 1)), zF, zF, H', ⟨by have := HK1.out; omega⟩, ⟨zB⟩⟩
          ·rw [if_neg c11] at H
           have c11b0 : (((rd_T84 l0 x5_1).f1.f4).toList == t474.toList) = false := beq_eq_false_iff_ne.mpr c11
           have c11b1 : (((rd_T84 l0 x5_1).f1.f4).toList != t474.toList) = true := bne_iff_ne.mpr c11
           obtain rfl := Option.some.inj H
           have p468 : 0 ≤ (x5_1 : Int) := zd
           have q468 : x5_1 < (l0.length : Int) := zd
           obtain ⟨ad468, e468, hx468_0, hx468_1, hx468_2, hx468_3, hx468_4, hx468_5⟩ := at_T84 (Kd.C_below HR0.out HB.out) x5_1 p468 q468
           cases e468
           replace p468 := eq_true p468
           replace q468 := eq_true q468
           have p469 : 0 ≤ (x5_1 : Int) := zd
           have q469 : x5_1 < (l0.length : Int) := zd
           obtain ⟨ad469, e469, hx469_0, hx469_1, hx469_2, hx469_3, hx469_4, hx469_5⟩ := at_T84 (Kd.C_below HR0.out HB.out) x5_1 p469 q469
           obtain rfl : ad468 = ad469 := (by injection e469)
           replace p469 := eq_true p469
           replace q469 := eq_true q469
           have p470 : 0 ≤ (x5_1 : Int) := zd
           have q470 : x5_1 < (l0.length : Int) := zd
           obtain ⟨ad470, e470, hx470_0, hx470_1, hx470_2, hx470_3, hx470_4, hx470_5⟩ := at_T84 (Kd.C_below HR0.out HB.out) x5_1 p470 q470
           obtain rfl : ad468 = ad470 := (by injection e470)
           replace p470 := eq_true p470
           replace q470 := eq_true q470
           have p471 : 0 ≤ (x5_1 : Int) := zd
           have q471 : x5_1 < (l0.length : Int) := zd
           obtain ⟨ad471, e471, hx471_0, hx471_1, hx471_2, hx471_3, hx471_4, hx471_5⟩ := at_T84 (Kd.C_below HR0.out HB.out) x5_1 p471 q471
           obtain rfl : ad468 = ad471 := (by injection e471)
           replace p471 := eq_true p471
           replace q471 := eq_true q471
           have p472 : 0 ≤ (x5_1 : Int) := zd
           have q472 : x5_1 < (l0.length : Int) := zd
           obtain ⟨ad472, e472, hx472_0, hx472_1, hx472_2, hx472_3, hx472_4, hx472_5⟩ := at_T84 (Kd.C_below HR0.out HB.out) x5_1 p472 q472
           obtain rfl : ad468 = ad472 := (by injection e472)
           replace p472 := eq_true p472
           replace q472 := eq_true q472
           try go_wp2
           replace HB := zm (below_drew1 HB.out)
           have p473 : 0 ≤ (x5_1 : Int) := zd
           have q473 : x5_1 < (l0.length : Int) := zd
           obtain ⟨ad473, e473, hx473_0, hx473_1, hx473_2, hx473_3, hx473_4, hx473_5⟩ := at_T84 HR0.out x5_1 p473 q473
           have hw473_5 := hx473_5
           have hw473_4 := hx473_4
           have hw473_3 := hx473_3
           have hw473_2 := hx473_2
           have hw473_1 := hx473_1
           have hw473_0 := hx473_0
           obtain rfl : ad468 = ad473 := (by injection e473)
           replace hx473_0 := (HB.out.cell (World.block_lt_of_cell? w _ hx473_0)).trans hx473_0
           replace hx473_1 := (HB.out.cell (World.block_lt_of_cell? w _ hx473_1)).trans hx473_1
           replace hx473_2 := (HB.out.cell (World.block_lt_of_cell? w _ hx473_2)).trans hx473_2
           replace hx473_3 := (HB.out.cell (World.block_lt_of_cell? w _ hx473_3)).trans hx473_3
           replace hx473_4 := (HB.out.cell (World.block_lt_of_cell? w _ hx473_4)).trans hx473_4
           replace hx473_5 := (HB.out.cell (World.block_lt_of_cell? w _ hx473_5)).trans hx473_5
           replace p473 := eq_true p473
           replace q473 := eq_true q473
           refine start_ (n := 9) (S := fun w' => w'.cell? (ad468.add ((x5_1).toNat * 6)) = some (.int .i64 ((rd_T84 l0 x5_1).f0)) ∧ w'.cell? ⟨(ad468.add ((x5_1).toNat * 6)).block, (ad468.add ((x5_1).toNat * 6)).off + 1, none⟩ = some (.int .i64 ((rd_T84 l0 x5_1).f1.f0)) ∧ w'.cell? ⟨(ad468.add ((x5_1).toNat * 6)).block, (ad468.add ((x5_1).toNat * 6)).off + 2, none⟩ = some (.int .i64 ((rd_T84 l0 x5_1).f1.f1)) ∧ w'.cell? ⟨(ad468.add ((x5_1).toNat * 6)).block, (ad468.add ((x5_1).toNat * 6)).off + 3, none⟩ = some (.int .i64 ((rd_T84 l0 x5_1).f1.f2)) ∧ w'.cell? ⟨(ad468.add ((x5_1).toNat * 6)).block, (ad468.add ((x5_1).toNat * 6)).off + 4, none⟩ = some (.int .i64 ((rd_T84 l0 x5_1).f1.f3)) ∧ w'.cell? ⟨(ad468.add ((x5_1).toNat * 6)).block, (ad468.add ((x5_1).toNat * 6)).off + 5, none⟩ = some (.string ((rd_T84 l0 x5_1).f1.f4))) (ds := []) (zl 9 0) (by kernel_rfl) rfl rfl ⟨((HB.out.cell (World.block_lt_of_cell? w _ hw473_0)).trans hw473_0), ((HB.out.cell (World.block_lt_of_cell? w _ hw473_1)).trans hw473_1), ((HB.out.cell (World.block_lt_of_cell? w _ hw473_2)).trans hw473_2), ((HB.out.cell (World.block_lt_of_cell? w _ hw473_3)).trans hw473_3), ((HB.out.cell (World.block_lt_of_cell? w _ hw473_4)).trans hw473_4), ((HB.out.cell (World.block_lt_of_cell? w _ hw473_5)).trans hw473_5)⟩ (fun hHeld => ?_); refine with_tabW laws_heldItemS.tab19 laws_heldItemS.bits19 (fun HT_ HW_ => ?_)
           generalize wr.drew = w14 at HB hx473_0 hx473_1 hx473_2 hx473_3 hx473_4 hx473_5 hHeld ⊢
           refine zp 0 (some 61) (zl 9 1) ?_
           refine zp 1 (some 62) (zl 9 3) ?_
           refine zp 2 (some 63) (zl 9 7) ?_
           refine zp 3 (some 64) (zl 9 15) ?_
           refine zp 4 (some 65) (zl 9 31) ?_
           refine zp 6 (some 67) (zl 9 95) ?_
           refine zt 5 (some 66) (zl 9 127) ?_
           refine zo 7 (some 68) (zl 9 255) (fun K hK => ?_)
           refine zgo #[.int .i64 (wrap64 ((wrap64 ((wrap64 ((wrap64 ((wrap64 (x1_1 + 1)) + 1)) + 1)) + 1)) + 1))] Try.func87 ?_
           with_reducible refine (laws_markText.calls k1 (wrap64 ((wrap64 ((wrap64 ((wrap64 ((wrap64 (x1_1 + 1)) + 1)) + 1)) + 1)) + 1)) t474 _ A10.out).mono ?_
           rintro e w15 ⟨rfl, hb⟩
           refine ⟨_, rfl, ?_⟩
           replace HB := zm (below_step zB hb)
           (try clear hb)
           (try clear hb2)
           (try clear hk)
           (try clear hi)
           refine hK.out _ _ ⟨((HB.out.cell (World.block_lt_of_cell? w _ hw473_0)).trans hw473_0), ((HB.out.cell (World.block_lt_of_cell? w _ hw473_1)).trans hw473_1), ((HB.out.cell (World.block_lt_of_cell? w _ hw473_2)).trans hw473_2), ((HB.out.cell (World.block_lt_of_cell? w _ hw473_3)).trans hw473_3), ((HB.out.cell (World.block_lt_of_cell? w _ hw473_4)).trans hw473_4), ((HB.out.cell (World.block_lt_of_cell? w _ hw473_5)).trans hw473_5)⟩ (fun hHeld => ?_)
           clear hK K
           refine zn ?_
           refine zp 8 (some 69) (zl 9 511) ?_
           refine done_ (done_of HT_.out (by kernel_rfl)) ?_
           try go_wp2
           go_ret
           exact ⟨zE, zB⟩
         ·rw [if_neg c9] at H
          have c9b0 : (((rd_T84 l0 x5_1).f1.f3) == (wrap64 ((wrap64 ((wrap64 ((wrap64 (x1_1 + 1)) + 1)) + 1)) + 1))) = false := beq_eq_false_iff_ne.mpr c9
          have c9b1 : (((rd_T84 l0 x5_1).f1.f3) != (wrap64 ((wrap64 ((wrap64 ((wrap64 (x1_1 + 1)) + 1)) + 1)) + 1))) = true := bne_iff_ne.mpr c9
          obtain rfl := Option.some.inj H
          have p468 : 0 ≤ (x5_1 : Int) := zd
          have q468 : x5_1 < (l0.length : Int) := zd
          obtain ⟨ad468, e468, hx468_0, hx468_1, hx468_2, hx468_3, hx468_4, hx468_5⟩ := at_T84 (Kd.C_below HR0.out HB.out) x5_1 p468 q468
          cases e468
          replace p468 := eq_true p468
          replace q468 := eq_true q468
          have p469 : 0 ≤ (x5_1 : Int) := zd
          have q469 : x5_1 < (l0.length : Int) := zd
          obtain ⟨ad469, e469, hx469_0, hx469_1, hx469_2, hx469_3, hx469_4, hx469_5⟩ := at_T84 (Kd.C_below HR0.out HB.out) x5_1 p469 q469
          obtain rfl : ad468 = ad469 := (by injection e469)
          replace p469 := eq_true p469
          replace q469 := eq_true q469
          have p470 : 0 ≤ (x5_1 : Int) := zd
          have q470 : x5_1 < (l0.length : Int) := zd
          obtain ⟨ad470, e470, hx470_0, hx470_1, hx470_2, hx470_3, hx470_4, hx470_5⟩ := at_T84 (Kd.C_below HR0.out HB.out) x5_1 p470 q470
          obtain rfl : ad468 = ad470 := (by injection e470)
          replace p470 := eq_true p470
          replace q470 := eq_true q470
          have p471 : 0 ≤ (x5_1 : Int) := zd
          have q471 : x5_1 < (l0.length : Int) := zd
          obtain ⟨ad471, e471, hx471_0, hx471_1, hx471_2, hx471_3, hx471_4, hx471_5⟩ := at_T84 (Kd.C_below HR0.out HB.out) x5_1 p471 q471
          obtain rfl : ad468 = ad471 := (by injection e471)
          replace p471 := eq_true p471
          replace q471 := eq_true q471
          have p472 : 0 ≤ (x5_1 : Int) := zd
          have q472 : x5_1 < (l0.length : Int) := zd
          obtain ⟨ad472, e472, hx472_0, hx472_1, hx472_2, hx472_3, hx472_4, hx472_5⟩ := at_T84 (Kd.C_below HR0.out HB.out) x5_1 p472 q472
          obtain rfl : ad468 = ad472 := (by injection e472)
          replace p472 := eq_true p472
          replace q472 := eq_true q472
          go_wp2
          go_ret
          exact ⟨zE, zB⟩
        ·rw [if_neg c8] at H
         have c8b0 : (((rd_T84 l0 x5_1).f1.f2) == (wrap64 ((wrap64 ((wrap64 (x1_1 + 1)) + 1)) + 1))) = false := beq_eq_false_iff_ne.mpr c8
         have c8b1 : (((rd_T84 l0 x5_1).f1.f2) != (wrap64 ((wrap64 ((wrap64 (x1_1 + 1)) + 1)) + 1))) = true := bne_iff_ne.mpr c8
         obtain rfl := Option.some.inj H
         have p468 : 0 ≤ (x5_1 : Int) := zd
         have q468 : x5_1 < (l0.length : Int) := zd
         obtain ⟨ad468, e468, hx468_0, hx468_1, hx468_2, hx468_3, hx468_4, hx468_5⟩ := at_T84 (Kd.C_below HR0.out HB.out) x5_1 p468 q468
         cases e468
         replace p468 := eq_true p468
         replace q468 := eq_true q468
         have p469 : 0 ≤ (x5_1 : Int) := zd
         have q469 : x5_1 < (l0.length : Int) := zd
         obtain ⟨ad469, e469, hx469_0, hx469_1, hx469_2, hx469_3, hx469_4, hx469_5⟩ := at_T84 (Kd.C_below HR0.out HB.out) x5_1 p469 q469
         obtain rfl : ad468 = ad469 := (by injection e469)
         replace p469 := eq_true p469
         replace q469 := eq_true q469
         have p470 : 0 ≤ (x5_1 : Int) := zd
         have q470 : x5_1 < (l0.length : Int) := zd
         obtain ⟨ad470, e470, hx470_0, hx470_1, hx470_2, hx470_3, hx470_4, hx470_5⟩ := at_T84 (Kd.C_below HR0.out HB.out) x5_1 p470 q470
         obtain rfl : ad468 = ad470 := (by injection e470)
         replace p470 := eq_true p470
         replace q470 := eq_true q470
         have p471 : 0 ≤ (x5_1 : Int) := zd
         have q471 : x5_1 < (l0.length : Int) := zd
         obtain ⟨ad471, e471, hx471_0, hx471_1, hx471_2, hx471_3, hx471_4, hx471_5⟩ := at_T84 (Kd.C_below HR0.out HB.out) x5_1 p471 q471
         obtain rfl : ad468 = ad471 := (by injection e471)
         replace p471 := eq_true p471
         replace q471 := eq_true q471
         go_wp2
         go_ret
         exact ⟨zE, zB⟩
       ·rw [if_neg c7] at H
        have c7b0 : (((rd_T84 l0 x5_1).f1.f1) == (wrap64 ((wrap64 (x1_1 + 1)) + 1))) = false := beq_eq_false_iff_ne.mpr c7
        have c7b1 : (((rd_T84 l0 x5_1).f1.f1) != (wrap64 ((wrap64 (x1_1 + 1)) + 1))) = true := bne_iff_ne.mpr c7
        obtain rfl := Option.some.inj H
        have p468 : 0 ≤ (x5_1 : Int) := zd
        have q468 : x5_1 < (l0.length : Int) := zd
        obtain ⟨ad468, e468, hx468_0, hx468_1, hx468_2, hx468_3, hx468_4, hx468_5⟩ := at_T84 (Kd.C_below HR0.out HB.out) x5_1 p468 q468
        cases e468
        replace p468 := eq_true p468
        replace q468 := eq_true q468
        have p469 : 0 ≤ (x5_1 : Int) := zd
        have q469 : x5_1 < (l0.length : Int) := zd
        obtain ⟨ad469, e469, hx469_0, hx469_1, hx469_2, hx469_3, hx469_4, hx469_5⟩ := at_T84 (Kd.C_below HR0.out HB.out) x5_1 p469 q469
        obtain rfl : ad468 = ad469 := (by injection e469)
        replace p469 := eq_true p469
        replace q469 := eq_true q469
        have p470 : 0 ≤ (x5_1 : Int) := zd
        have q470 : x5_1 < (l0.length : Int) := zd
        obtain ⟨ad470, e470, hx470_0, hx470_1, hx470_2, hx470_3, hx470_4, hx470_5⟩ := at_T84 (Kd.C_below HR0.out HB.out) x5_1 p470 q470
        obtain rfl : ad468 = ad470 := (by injection e470)
        replace p470 := eq_true p470
        replace q470 := eq_true q470
        go_wp2
        go_ret
        exact ⟨zE, zB⟩
      ·rw [if_neg c6] at H
       have c6b0 : (((rd_T84 l0 x5_1).f1.f0) == (wrap64 (x1_1 + 1))) = false := beq_eq_false_iff_ne.mpr c6
       have c6b1 : (((rd_T84 l0 x5_1).f1.f0) != (wrap64 (x1_1 + 1))) = true := bne_iff_ne.mpr c6
       obtain rfl := Option.some.inj H
       have p468 : 0 ≤ (x5_1 : Int) := zd
       have q468 : x5_1 < (l0.length : Int) := zd
       obtain ⟨ad468, e468, hx468_0, hx468_1, hx468_2, hx468_3, hx468_4, hx468_5⟩ := at_T84 (Kd.C_below HR0.out HB.out) x5_1 p468 q468
       cases e468
       replace p468 := eq_true p468
       replace q468 := eq_true q468
       have p469 : 0 ≤ (x5_1 : Int) := zd
       have q469 : x5_1 < (l0.length : Int) := zd
       obtain ⟨ad469, e469, hx469_0, hx469_1, hx469_2, hx469_3, hx469_4, hx469_5⟩ := at_T84 (Kd.C_below HR0.out HB.out) x5_1 p469 q469
       obtain rfl : ad468 = ad469 := (by injection e469)
       replace p469 := eq_true p469
       replace q469 := eq_true q469
       go_wp2
       go_ret
       exact ⟨zE, zB⟩
     ·rw [if_neg c5] at H
      have c5b0 : (((rd_T84 l0 x5_1).f0) == x1_1) = false := beq_eq_false_iff_ne.mpr c5
      have c5b1 : (((rd_T84 l0 x5_1).f0) != x1_1) = true := bne_iff_ne.mpr c5
      obtain rfl := Option.some.inj H
      have p468 : 0 ≤ (x5_1 : Int) := zd
      have q468 : x5_1 < (l0.length : Int) := zd
      obtain ⟨ad468, e468, hx468_0, hx468_1, hx468_2, hx468_3, hx468_4, hx468_5⟩ := at_T84 (Kd.C_below HR0.out HB.out) x5_1 p468 q468
      cases e468
      replace p468 := eq_true p468
      replace q468 := eq_true q468
      go_wp2
      go_ret
      exact ⟨zE, zB⟩
    ·rw [if_neg c4] at H
     exact absurd H (by simp)
   ·rw [if_neg c3] at H
    have c3b0 : decide (x5_1 < (l0.length : Int)) = false := decide_eq_false c3
    clear c3
    obtain rfl := Option.some.inj H
    go_wp2
    go_ret
    exact ⟨zE, zB⟩

/-! ### laws_heldFloorS: function 85 -/
def laws_heldFloorS.l0 : Nat → List (S89) → Int → Int → Option (Int)
 | 0, _, _, _ => none
 | k + 1, x0, x1, x5 => if x5 < (x0.length : Int) then (if 0 ≤ x5 then (if ((rd_T89 x0 x5).f0) = x1 then (if ((rd_T89 x0 x5).f1) = (wrap64 (x1 + 1)) then (laws_heldFloorS.l0 k x0 (wrap64 ((wrap64 (x1 + 1)) + 1)) (wrap64 (x5 + 1))) else (some (-1))) else (some (-1))) else (none)) else (some x1)
def laws_heldFloorS.f (k : Nat) (l0 : List (S89)) (a1 : Int) : Option (Int) := laws_heldFloorS.l0 k l0 a1 0
theorem laws_heldFloorS.mono_l : ∀ k, (∀ y0 y1 y2, LeO (laws_heldFloorS.l0 k y0 y1 y2) (laws_heldFloorS.l0 (k + 1) y0 y1 y2))
 | 0 => fun _ _ _ r h => by simp [laws_heldFloorS.l0] at h
 | k + 1 => by
  have ih0 := laws_heldFloorS.mono_l k
  ·intro y0 y1 y2
   unfold laws_heldFloorS.l0
   repeat' first
   | (with_reducible exact ih0 _ _ _)
   | (with_reducible exact LeO.refl _)
   | (with_reducible exact LeO.none _)
   | (with_reducible refine LeO.ite ?_ ?_)
   | (with_reducible refine LeO.bind ?_ (fun _ => ?_))
   | exact ih0 _ _ _
   | exact LeO.none _
   | refine LeO.ite ?_ ?_
   | refine LeO.bind ?_ (fun _ => ?_)
theorem laws_heldFloorS.mono : ∀ a0 a1 k, LeO (laws_heldFloorS.f k a0 a1) (laws_heldFloorS.f (k + 1) a0 a1) := by
 intro a0 a1 k
 have ih0 := laws_heldFloorS.mono_l k
 unfold laws_heldFloorS.f
 repeat' first
   | (with_reducible exact ih0 _ _ _)
   | (with_reducible exact LeO.refl _)
   | (with_reducible exact LeO.none _)
   | (with_reducible refine LeO.ite ?_ ?_)
   | (with_reducible refine LeO.bind ?_ (fun _ => ?_))
   | exact ih0 _ _ _
   | exact LeO.none _
   | refine LeO.ite ?_ ?_
   | refine LeO.bind ?_ (fun _ => ?_)
set_option maxHeartbeats 8000000 in
set_option maxRecDepth 100000 in
theorem laws_heldFloorS.calls (k : Nat) (A0 : Option Addr) (c0 : Nat) (l0 : List (S89)) (a1 : Int) (r : Int) (w : World) (hr0 : Kd.C k89 w A0 l0.length l0) (hc0 : l0.length ≤ c0) (h : laws_heldFloorS.f k l0 a1 = some r) :
  Calls Try.prog 85 #[.slice A0 l0.length c0, .int .i64 a1] w fun e w' => e = .returned (.int .i64 r) ∧ Drawn0 w w' := by
 have HR0 := zm hr0
 have HC0 := zm hc0
 clear hr0 hc0
 have H : (laws_heldFloorS.l0 k l0 a1 0) = some r := h
 clear h
 have H' := zm H
 clear H
 go_enter Try.func85, Try.ntmps85
 go_wp2
 go_loopg [1, 5] k (fun kq v1 v5 w' => ∃ (x1_1 : Int) (x5_1 : Int), v1 = .int .i64 x1_1 ∧ v5 = .int .i64 x5_1 ∧ Aside0 (laws_heldFloorS.l0 kq l0 x1_1 x5_1 = some r) ∧ Aside0 (kq ≤ k) ∧ Drawn0 w w')
 case atStart => exact ⟨(a1), (0), zF, zF, H', ⟨Nat.le_refl _⟩, zD⟩
 case round =>
  clear H'
  try clear p2
  obtain ⟨x1_1, x5_1, rfl, rfl, HA, HK1, ⟨m1, rfl⟩⟩ := hrel
  cases gk with
  | zero => exact absurd HA.out (by simp [laws_heldFloorS.l0])
  | succ k1 =>
   have H := HA.out
   clear HA
   simp only [laws_heldFloorS.l0] at H
   by_cases c3 : x5_1 < (l0.length : Int)
   ·rw [if_pos c3] at H
    have c3b0 : decide (x5_1 < (l0.length : Int)) = true := decide_eq_true c3
    clear c3
    by_cases c4 : 0 ≤ x5_1
    ·rw [if_pos c4] at H
     have c4b0 : decide (0 ≤ x5_1) = true := decide_eq_true c4
     clear c4
     by_cases c5 : ((rd_T89 l0 x5_1).f0) = x1_1
     ·rw [if_pos c5] at H
      have c5b0 : (((rd_T89 l0 x5_1).f0) == x1_1) = true := beq_iff_eq.mpr c5
      have c5b1 : (((rd_T89 l0 x5_1).f0) != x1_1) = false := bne_eq_false_iff_eq.mpr c5
      clear c5
      by_cases c6 : ((rd_T89 l0 x5_1).f1) = (wrap64 (x1_1 + 1))
      ·rw [if_pos c6] at H
       have c6b0 : (((rd_T89 l0 x5_1).f1) == (wrap64 (x1_1 + 1))) = true := beq_iff_eq.mpr c6
       have c6b1 : (((rd_T89 l0 x5_1).f1) != (wrap64 (x1_1 + 1))) = false := bne_eq_false_iff_eq.mpr c6
       clear c6
       have H' := zm H
       clear H
       have p475 : 0 ≤ (x5_1 : Int) := zd
       have q475 : x5_1 < (l0.length : Int) := zd
       obtain ⟨ad475, e475, hx475_0, hx475_1⟩ := at_T89 HR0.out x5_1 p475 q475
       cases e475
       replace p475 := eq_true p475
       replace q475 := eq_true q475
       have p476 : 0 ≤ (x5_1 : Int) := zd
       have q476 : x5_1 < (l0.length : Int) := zd
       obtain ⟨ad476, e476, hx476_0, hx476_1⟩ := at_T89 HR0.out x5_1 p476 q476
       obtain rfl : ad475 = ad476 := (by injection e476)
       replace p476 := eq_true p476
       replace q476 := eq_true q476
       go_wp2
       go_roundg k1
       case measure => have := HK1.out; omega
       case rel => exact ⟨(wrap64 ((wrap64 (x1_1 + 1)) + 1)), (wrap64 (x5_1 + 1)), zF, zF, H', ⟨by have := HK1.out; omega⟩, zD⟩
      ·rw [if_neg c6] at H
       have c6b0 : (((rd_T89 l0 x5_1).f1) == (wrap64 (x1_1 + 1))) = false := beq_eq_false_iff_ne.mpr c6
       have c6b1 : (((rd_T89 l0 x5_1).f1) != (wrap64 (x1_1 + 1))) = true := bne_iff_ne.mpr c6
       obtain rfl := Option.some.inj H
       have p475 : 0 ≤ (x5_1 : Int) := zd
       have q475 : x5_1 < (l0.length : Int) := zd
       obtain ⟨ad475, e475, hx475_0, hx475_1⟩ := at_T89 HR0.out x5_1 p475 q475
       cases e475
       replace p475 := eq_true p475
       replace q475 := eq_true q475
       have p476 : 0 ≤ (x5_1 : Int) := zd
       have q476 : x5_1 < (l0.length : Int) := zd
       obtain ⟨ad476, e476, hx476_0, hx476_1⟩ := at_T89 HR0.out x5_1 p476 q476
       obtain rfl : ad475 = ad476 := (by injection e476)
       replace p476 := eq_true p476
       replace q476 := eq_true q476
       go_wp2
       go_ret
       exact ⟨zF, zD⟩
     ·rw [if_neg c5] at H
      have c5b0 : (((rd_T89 l0 x5_1).f0) == x1_1) = false := beq_eq_false_iff_ne.mpr c5
      have c5b1 : (((rd_T89 l0 x5_1).f0) != x1_1) = true := bne_iff_ne.mpr c5
      obtain rfl := Option.some.inj H
      have p475 : 0 ≤ (x5_1 : Int) := zd
      have q475 : x5_1 < (l0.length : Int) := zd
      obtain ⟨ad475, e475, hx475_0, hx475_1⟩ := at_T89 HR0.out x5_1 p475 q475
      cases e475
      replace p475 := eq_true p475
      replace q475 := eq_true q475
      go_wp2
      go_ret
      exact ⟨zF, zD⟩
    ·rw [if_neg c4] at H
     exact absurd H (by simp)
   ·rw [if_neg c3] at H
    have c3b0 : decide (x5_1 < (l0.length : Int)) = false := decide_eq_false c3
    clear c3
    obtain rfl := Option.some.inj H
    go_wp2
    go_ret
    exact ⟨zF, zD⟩

/-! ### laws_heldState: function 49 -/
def laws_heldState.f (k : Nat) (l0_0 : List (S84)) (l0_1 : List (S89)) (a1 : Int) : Option (Int) := (laws_heldItemS.f k l0_0 a1).bind fun t478 => (if t478 < 0 then (some (-1)) else ((laws_heldFloorS.f k l0_1 t478).bind fun t479 => (if t479 < 0 then (some (-1)) else (some t479))))
theorem laws_heldState.mono : ∀ a0 a1 a2 k, LeO (laws_heldState.f k a0 a1 a2) (laws_heldState.f (k + 1) a0 a1 a2) := by
 intro a0 a1 a2 k
 unfold laws_heldState.f
 repeat' first
   | (with_reducible exact laws_heldFloorS.mono _ _ _)
   | (with_reducible exact laws_heldItemS.mono _ _ _)
   | (with_reducible exact LeO.refl _)
   | (with_reducible exact LeO.none _)
   | (with_reducible refine LeO.ite ?_ ?_)
   | (with_reducible refine LeO.bind ?_ (fun _ => ?_))
   | exact laws_heldFloorS.mono _ _ _
   | exact laws_heldItemS.mono _ _ _
   | exact LeO.none _
   | refine LeO.ite ?_ ?_
   | refine LeO.bind ?_ (fun _ => ?_)
set_option maxHeartbeats 8000000 in
set_option maxRecDepth 100000 in
theorem laws_heldState.calls (k : Nat) (A0_0 : Option Addr) (c0_0 : Nat) (l0_0 : List (S84)) (A0_1 : Option Addr) (c0_1 : Nat) (l0_1 : List (S89)) (a1 : Int) (r : Int) (w : World) (hr0_0 : Kd.C k84 w A0_0 l0_0.length l0_0) (hc0_0 : l0_0.length ≤ c0_0) (hr0_1 : Kd.C k89 w A0_1 l0_1.length l0_1) (hc0_1 : l0_1.length ≤ c0_1) (h : laws_heldState.f k l0_0 l0_1 a1 = some r) :
  Calls Try.prog 49 #[.agg #[.slice A0_0 l0_0.length c0_0, .slice A0_1 l0_1.length c0_1], .int .i64 a1] w fun e w' => e = .returned (.int .i64 r) ∧ Below w.heap.size w w' := by
 have hu55 := Try.underlying55
 have HR0_0 := zm hr0_0
 have HC0_0 := zm hc0_0
 clear hr0_0 hc0_0
 have HR0_1 := zm hr0_1
 have HC0_1 := zm hc0_1
 clear hr0_1 hc0_1
 have HB := zm (Below.refl w.heap.size w)
 have H : ((laws_heldItemS.f k l0_0 a1).bind fun t478 => (if t478 < 0 then (some (-1)) else ((laws_heldFloorS.f k l0_1 t478).bind fun t479 => (if t479 < 0 then (some (-1)) else (some t479))))) = some r := h
 clear h
 replace H := Option.bind_eq_some_iff.mp H
 obtain ⟨t478, A30, H⟩ := H
 replace H : (if t478 < 0 then (some (-1)) else ((laws_heldFloorS.f k l0_1 t478).bind fun t479 => (if t479 < 0 then (some (-1)) else (some t479)))) = some r := H
 have A3 := zm A30
 clear A30
 by_cases c4 : t478 < 0
 ·rw [if_pos c4] at H
  have c4b0 : decide (t478 < 0) = true := decide_eq_true c4
  clear c4
  obtain rfl := Option.some.inj H
  go_enter Try.func49, Try.ntmps49
  go_wp2_with (first | ((with_reducible refine gate_dst (N := 2) rfl ?_); refine zbox 2 #[.slice A0_0 l0_0.length c0_0, .slice A0_1 l0_1.length c0_1] 55 ?_; intro gb477 hg w5 hbox hb; have BK477 := zm (hbox); have GW477 := zge w hg zB; have GE477 := zge w hg zB; replace HB := zm (below_step zB hb); clear hb hbox hg; have hcz6_0 : w5.cell? ⟨gb477, 0, none⟩ = some (.slice A0_0 l0_0.length c0_0) := (blk_cell BK477.out 0).trans rfl; have hcz6_1 : w5.cell? ⟨gb477, 1, none⟩ = some (.slice A0_1 l0_1.length c0_1) := (blk_cell BK477.out 1).trans rfl; have hfz6_0 := blk_frozen BK477.out 0; have hfz6_1 := blk_frozen BK477.out 1) | ((with_reducible refine gate_callee (f := 58) rfl ?_); refine zg (some 8) #[.slice A0_0 l0_0.length c0_0, .int .i64 a1] Try.func58 ?_; (with_reducible refine (laws_heldItemS.calls k _ _ l0_0 a1 t478 _ (zk (Kd.C_below HR0_0.out HB.out)) HC0_0.out A3.out).mono ?_); rintro e w7 ⟨rfl, hb⟩; refine ⟨_, rfl, ?_⟩; replace BK477 := zm (blk_below (zb BK477) hb); replace HB := zm (below_step zB hb); clear hb))
  go_ret
  exact ⟨zE, zB⟩
 ·rw [if_neg c4] at H
  have c4b0 : decide (t478 < 0) = false := decide_eq_false c4
  clear c4
  replace H := Option.bind_eq_some_iff.mp H
  obtain ⟨t479, A80, H⟩ := H
  replace H : (if t479 < 0 then (some (-1)) else (some t479)) = some r := H
  have A8 := zm A80
  clear A80
  by_cases c9 : t479 < 0
  ·rw [if_pos c9] at H
   have c9b0 : decide (t479 < 0) = true := decide_eq_true c9
   clear c9
   obtain rfl := Option.some.inj H
   go_enter Try.func49, Try.ntmps49
   go_wp2_with (first | ((with_reducible refine gate_dst (N := 2) rfl ?_); refine zbox 2 #[.slice A0_0 l0_0.length c0_0, .slice A0_1 l0_1.length c0_1] 55 ?_; intro gb477 hg w10 hbox hb; have BK477 := zm (hbox); have GW477 := zge w hg zB; have GE477 := zge w hg zB; replace HB := zm (below_step zB hb); clear hb hbox hg; have hcz11_0 : w10.cell? ⟨gb477, 0, none⟩ = some (.slice A0_0 l0_0.length c0_0) := (blk_cell BK477.out 0).trans rfl; have hcz11_1 : w10.cell? ⟨gb477, 1, none⟩ = some (.slice A0_1 l0_1.length c0_1) := (blk_cell BK477.out 1).trans rfl; have hfz11_0 := blk_frozen BK477.out 0; have hfz11_1 := blk_frozen BK477.out 1) | ((with_reducible refine gate_callee (f := 58) rfl ?_); refine zg (some 8) #[.slice A0_0 l0_0.length c0_0, .int .i64 a1] Try.func58 ?_; (with_reducible refine (laws_heldItemS.calls k _ _ l0_0 a1 t478 _ (zk (Kd.C_below HR0_0.out HB.out)) HC0_0.out A3.out).mono ?_); rintro e w12 ⟨rfl, hb⟩; refine ⟨_, rfl, ?_⟩; replace BK477 := zm (blk_below (zb BK477) hb); replace HB := zm (below_step zB hb); clear hb; have hcz13_0 : w12.cell? ⟨gb477, 0, none⟩ = some (.slice A0_0 l0_0.length c0_0) := (blk_cell BK477.out 0).trans rfl; have hcz13_1 : w12.cell? ⟨gb477, 1, none⟩ = some (.slice A0_1 l0_1.length c0_1) := (blk_cell BK477.out 1).trans rfl; have hfz13_0 := blk_frozen BK477.out 0; have hfz13_1 := blk_frozen BK477.out 1) | ((with_reducible refine gate_callee (f := 85) rfl ?_); refine zg (some 14) #[.slice A0_1 l0_1.length c0_1, .int .i64 t478] Try.func85 ?_; (with_reducible refine (laws_heldFloorS.calls k _ _ l0_1 t478 t479 _ (zk (Kd.C_below HR0_1.out HB.out)) HC0_1.out A8.out).mono ?_); rintro e w' ⟨rfl, ⟨nd, rfl⟩⟩; refine ⟨_, rfl, ?_⟩))
   go_ret
   exact ⟨zE, zB⟩
  ·rw [if_neg c9] at H
   have c9b0 : decide (t479 < 0) = false := decide_eq_false c9
   clear c9
   obtain rfl := Option.some.inj H
   go_enter Try.func49, Try.ntmps49
   go_wp2_with (first | ((with_reducible refine gate_dst (N := 2) rfl ?_); refine zbox 2 #[.slice A0_0 l0_0.length c0_0, .slice A0_1 l0_1.length c0_1] 55 ?_; intro gb477 hg w14 hbox hb; have BK477 := zm (hbox); have GW477 := zge w hg zB; have GE477 := zge w hg zB; replace HB := zm (below_step zB hb); clear hb hbox hg; have hcz15_0 : w14.cell? ⟨gb477, 0, none⟩ = some (.slice A0_0 l0_0.length c0_0) := (blk_cell BK477.out 0).trans rfl; have hcz15_1 : w14.cell? ⟨gb477, 1, none⟩ = some (.slice A0_1 l0_1.length c0_1) := (blk_cell BK477.out 1).trans rfl; have hfz15_0 := blk_frozen BK477.out 0; have hfz15_1 := blk_frozen BK477.out 1) | ((with_reducible refine gate_callee (f := 58) rfl ?_); refine zg (some 8) #[.slice A0_0 l0_0.length c0_0, .int .i64 a1] Try.func58 ?_; (with_reducible refine (laws_heldItemS.calls k _ _ l0_0 a1 t478 _ (zk (Kd.C_below HR0_0.out HB.out)) HC0_0.out A3.out).mono ?_); rintro e w16 ⟨rfl, hb⟩; refine ⟨_, rfl, ?_⟩; replace BK477 := zm (blk_below (zb BK477) hb); replace HB := zm (below_step zB hb); clear hb; have hcz17_0 : w16.cell? ⟨gb477, 0, none⟩ = some (.slice A0_0 l0_0.length c0_0) := (blk_cell BK477.out 0).trans rfl; have hcz17_1 : w16.cell? ⟨gb477, 1, none⟩ = some (.slice A0_1 l0_1.length c0_1) := (blk_cell BK477.out 1).trans rfl; have hfz17_0 := blk_frozen BK477.out 0; have hfz17_1 := blk_frozen BK477.out 1) | ((with_reducible refine gate_callee (f := 85) rfl ?_); refine zg (some 14) #[.slice A0_1 l0_1.length c0_1, .int .i64 t478] Try.func85 ?_; (with_reducible refine (laws_heldFloorS.calls k _ _ l0_1 t478 t479 _ (zk (Kd.C_below HR0_1.out HB.out)) HC0_1.out A8.out).mono ?_); rintro e w' ⟨rfl, ⟨nd, rfl⟩⟩; refine ⟨_, rfl, ?_⟩))
   go_ret
   exact ⟨zE, zB⟩

/-! ### spec_GoneAt: function 50 -/
def spec_GoneAt.f (k : Nat) (l0_0 : List (S84)) (l0_1 : List (S89)) (a1 : Int) : Option (Int) := (spec_StateOk.f k l0_0 l0_1).bind fun t529 => (if t529 = true then ((spec_EntryOf.f k l0_0 l0_1 a1).bind fun bt530 => (if bt530.2.2.2.2.2 = true then (if bt530.2.1 = 0 then (some (wrap64 (bt530.1 - 1))) else (some bt530.1)) else ((spec_FloorOf.f k l0_0 l0_1 a1).bind fun t537 => (some t537)))) else (some 0))
theorem spec_GoneAt.mono : ∀ a0 a1 a2 k, LeO (spec_GoneAt.f k a0 a1 a2) (spec_GoneAt.f (k + 1) a0 a1 a2) := by
 intro a0 a1 a2 k
 unfold spec_GoneAt.f
 repeat' first
   | (with_reducible exact spec_EntryOf.mono _ _ _ _)
   | (with_reducible exact spec_FloorOf.mono _ _ _ _)
   | (with_reducible exact spec_StateOk.mono _ _ _)
   | (with_reducible exact LeO.refl _)
   | (with_reducible exact LeO.none _)
   | (with_reducible refine LeO.ite ?_ ?_)
   | (with_reducible refine LeO.bind ?_ (fun _ => ?_))
   | exact spec_EntryOf.mono _ _ _ _
   | exact spec_FloorOf.mono _ _ _ _
   | exact spec_StateOk.mono _ _ _
   | exact LeO.none _
   | refine LeO.ite ?_ ?_
   | refine LeO.bind ?_ (fun _ => ?_)
set_option maxHeartbeats 8000000 in
set_option maxRecDepth 100000 in
theorem spec_GoneAt.calls (k : Nat) (A0_0 : Option Addr) (c0_0 : Nat) (l0_0 : List (S84)) (A0_1 : Option Addr) (c0_1 : Nat) (l0_1 : List (S89)) (a1 : Int) (r : Int) (w : World) (hr0_0 : Kd.C k84 w A0_0 l0_0.length l0_0) (hc0_0 : l0_0.length ≤ c0_0) (hr0_1 : Kd.C k89 w A0_1 l0_1.length l0_1) (hc0_1 : l0_1.length ≤ c0_1) (h : spec_GoneAt.f k l0_0 l0_1 a1 = some r) :
  Calls Try.prog 50 #[.agg #[.slice A0_0 l0_0.length c0_0, .slice A0_1 l0_1.length c0_1], .int .i64 a1] w fun e w' => e = .returned (.int .i64 r) ∧ Below w.heap.size w w' := by
 have hu55 := Try.underlying55
 have hu25 := Try.underlying25
 have HR0_0 := zm hr0_0
 have HC0_0 := zm hc0_0
 clear hr0_0 hc0_0
 have HR0_1 := zm hr0_1
 have HC0_1 := zm hc0_1
 clear hr0_1 hc0_1
 have HB := zm (Below.refl w.heap.size w)
 have H : ((spec_StateOk.f k l0_0 l0_1).bind fun t529 => (if t529 = true then ((spec_EntryOf.f k l0_0 l0_1 a1).bind fun bt530 => (if bt530.2.2.2.2.2 = true then (if bt530.2.1 = 0 then (some (wrap64 (bt530.1 - 1))) else (some bt530.1)) else ((spec_FloorOf.f k l0_0 l0_1 a1).bind fun t537 => (some t537)))) else (some 0))) = some r := h
 clear h
 replace H := Option.bind_eq_some_iff.mp H
 obtain ⟨t529, A30, H⟩ := H
 replace H : (if t529 = true then ((spec_EntryOf.f k l0_0 l0_1 a1).bind fun bt530 => (if bt530.2.2.2.2.2 = true then (if bt530.2.1 = 0 then (some (wrap64 (bt530.1 - 1))) else (some bt530.1)) else ((spec_FloorOf.f k l0_0 l0_1 a1).bind fun t537 => (some t537)))) else (some 0)) = some r := H
 have A3 := zm A30
 clear A30
 by_cases c4 : t529 = true
 ·subst c4
  have H1 : ((spec_EntryOf.f k l0_0 l0_1 a1).bind fun bt530 => (if bt530.2.2.2.2.2 = true then (if bt530.2.1 = 0 then (some (wrap64 (bt530.1 - 1))) else (some bt530.1)) else ((spec_FloorOf.f k l0_0 l0_1 a1).bind fun t537 => (some t537)))) = some r := by rw [if_pos rfl] at H; exact H
  clear H
  have H := H1
  clear H1
  replace H := Option.bind_eq_some_iff.mp H
  obtain ⟨⟨t530, t531, t532, t533, t534, t535⟩, A50, H⟩ := H
  replace H : (if t535 = true then (if t531 = 0 then (some (wrap64 (t530 - 1))) else (some t530)) else ((spec_FloorOf.f k l0_0 l0_1 a1).bind fun t537 => (some t537))) = some r := H
  have A5 := zm A50
  clear A50
  by_cases c6 : t535 = true
  ·subst c6
   have H1 : (if t531 = 0 then (some (wrap64 (t530 - 1))) else (some t530)) = some r := by rw [if_pos rfl] at H; exact H
   clear H
   have H := H1
   clear H1
   by_cases c7 : t531 = 0
   ·rw [if_pos c7] at H
    have c7b0 : (t531 == 0) = true := beq_iff_eq.mpr c7
    have c7b1 : (t531 != 0) = false := bne_eq_false_iff_eq.mpr c7
    clear c7
    obtain rfl := Option.some.inj H
    go_enter Try.func50, Try.ntmps50
    go_wp2_with (first | ((with_reducible refine gate_dst (N := 2) rfl ?_); refine zbox 2 #[.slice A0_0 l0_0.length c0_0, .slice A0_1 l0_1.length c0_1] 55 ?_; intro gb528 hg w8 hbox hb; have BK528 := zm (hbox); have GW528 := zge w hg zB; have GE528 := zge w hg zB; replace HB := zm (below_step zB hb); clear hb hbox hg; have hcz9_0 : w8.cell? ⟨gb528, 0, none⟩ = some (.slice A0_0 l0_0.length c0_0) := (blk_cell BK528.out 0).trans rfl; have hcz9_1 : w8.cell? ⟨gb528, 1, none⟩ = some (.slice A0_1 l0_1.length c0_1) := (blk_cell BK528.out 1).trans rfl; have hfz9_0 := blk_frozen BK528.out 0; have hfz9_1 := blk_frozen BK528.out 1) | ((with_reducible refine gate_callee (f := 44) rfl ?_); refine zg (some 8) #[.agg #[.slice A0_0 l0_0.length c0_0, .slice A0_1 l0_1.length c0_1]] Try.func44 ?_; (with_reducible refine (spec_StateOk.calls k _ _ l0_0 _ _ l0_1 true _ (zk (Kd.C_below HR0_0.out HB.out)) HC0_0.out (zk (Kd.C_below HR0_1.out HB.out)) HC0_1.out A3.out).mono ?_); rintro e w10 ⟨rfl, hb⟩; refine ⟨_, rfl, ?_⟩; replace BK528 := zm (blk_below (zb BK528) hb); replace HB := zm (below_step zB hb); clear hb; have hcz11_0 : w10.cell? ⟨gb528, 0, none⟩ = some (.slice A0_0 l0_0.length c0_0) := (blk_cell BK528.out 0).trans rfl; have hcz11_1 : w10.cell? ⟨gb528, 1, none⟩ = some (.slice A0_1 l0_1.length c0_1) := (blk_cell BK528.out 1).trans rfl; have hfz11_0 := blk_frozen BK528.out 0; have hfz11_1 := blk_frozen BK528.out 1) | ((with_reducible refine gate_callee (f := 36) rfl ?_); refine zg (some 13) #[.agg #[.slice A0_0 l0_0.length c0_0, .slice A0_1 l0_1.length c0_1], .int .i64 a1] Try.func36 ?_; (with_reducible refine (spec_EntryOf.calls k _ _ l0_0 _ _ l0_1 a1 t530 t531 t532 t533 t534 true _ (zk (Kd.C_below HR0_0.out HB.out)) HC0_0.out (zk (Kd.C_below HR0_1.out HB.out)) HC0_1.out A5.out).mono ?_); rintro e w12 ⟨rfl, hb⟩; refine ⟨_, rfl, ?_⟩; replace BK528 := zm (blk_below (zb BK528) hb); replace HB := zm (below_step zB hb); clear hb) | ((with_reducible refine gate_dst (N := 5) rfl ?_); refine zbox 5 #[.int .i64 0, .int .i64 0, .int .i64 0, .int .i64 0, .string (⟨#[]⟩ : ByteArray)] 25 ?_; intro gb536 hg w13 hbox hb; have BK536 := zm (hbox); have GW536 := zge w hg zB; have GE536 := zge w hg zB; replace HB := zm (below_step zB hb); have NB528_536 := zlt hg (zb BK528); have NB536_528 := zgt hg (zb BK528); replace BK528 := zm (blk_below (zb BK528) hb); clear hb hbox hg; have hnb14 := NB536_528.out; have hnc14 := NB528_536.out; have hcz15_0 : w13.cell? ⟨gb536, 0, none⟩ = some (.int .i64 0) := (blk_cell BK536.out 0).trans rfl; have hcz15_1 : w13.cell? ⟨gb536, 1, none⟩ = some (.int .i64 0) := (blk_cell BK536.out 1).trans rfl; have hcz15_2 : w13.cell? ⟨gb536, 2, none⟩ = some (.int .i64 0) := (blk_cell BK536.out 2).trans rfl; have hcz15_3 : w13.cell? ⟨gb536, 3, none⟩ = some (.int .i64 0) := (blk_cell BK536.out 3).trans rfl; have hcz15_4 : w13.cell? ⟨gb536, 4, none⟩ = some (.string (⟨#[]⟩ : ByteArray)) := (blk_cell BK536.out 4).trans rfl; have hfz15_0 := blk_frozen BK536.out 0; have hfz15_1 := blk_frozen BK536.out 1; have hfz15_2 := blk_frozen BK536.out 2; have hfz15_3 := blk_frozen BK536.out 3; have hfz15_4 := blk_frozen BK536.out 4))
    go_ret
    exact ⟨zE, zB⟩
   ·rw [if_neg c7] at H
    have c7b0 : (t531 == 0) = false := beq_eq_false_iff_ne.mpr c7
    have c7b1 : (t531 != 0) = true := bne_iff_ne.mpr c7
    obtain rfl := Option.some.inj H
    go_enter Try.func50, Try.ntmps50
    go_wp2_with (first | ((with_reducible refine gate_dst (N := 2) rfl ?_); refine zbox 2 #[.slice A0_0 l0_0.length c0_0, .slice A0_1 l0_1.length c0_1] 55 ?_; intro gb528 hg w16 hbox hb; have BK528 := zm (hbox); have GW528 := zge w hg zB; have GE528 := zge w hg zB; replace HB := zm (below_step zB hb); clear hb hbox hg; have hcz17_0 : w16.cell? ⟨gb528, 0, none⟩ = some (.slice A0_0 l0_0.length c0_0) := (blk_cell BK528.out 0).trans rfl; have hcz17_1 : w16.cell? ⟨gb528, 1, none⟩ = some (.slice A0_1 l0_1.length c0_1) := (blk_cell BK528.out 1).trans rfl; have hfz17_0 := blk_frozen BK528.out 0; have hfz17_1 := blk_frozen BK528.out 1) | ((with_reducible refine gate_callee (f := 44) rfl ?_); refine zg (some 8) #[.agg #[.slice A0_0 l0_0.length c0_0, .slice A0_1 l0_1.length c0_1]] Try.func44 ?_; (with_reducible refine (spec_StateOk.calls k _ _ l0_0 _ _ l0_1 true _ (zk (Kd.C_below HR0_0.out HB.out)) HC0_0.out (zk (Kd.C_below HR0_1.out HB.out)) HC0_1.out A3.out).mono ?_); rintro e w18 ⟨rfl, hb⟩; refine ⟨_, rfl, ?_⟩; replace BK528 := zm (blk_below (zb BK528) hb); replace HB := zm (below_step zB hb); clear hb; have hcz19_0 : w18.cell? ⟨gb528, 0, none⟩ = some (.slice A0_0 l0_0.length c0_0) := (blk_cell BK528.out 0).trans rfl; have hcz19_1 : w18.cell? ⟨gb528, 1, none⟩ = some (.slice A0_1 l0_1.length c0_1) := (blk_cell BK528.out 1).trans rfl; have hfz19_0 := blk_frozen BK528.out 0; have hfz19_1 := blk_frozen BK528.out 1) | ((with_reducible refine gate_callee (f := 36) rfl ?_); refine zg (some 13) #[.agg #[.slice A0_0 l0_0.length c0_0, .slice A0_1 l0_1.length c0_1], .int .i64 a1] Try.func36 ?_; (with_reducible refine (spec_EntryOf.calls k _ _ l0_0 _ _ l0_1 a1 t530 t531 t532 t533 t534 true _ (zk (Kd.C_below HR0_0.out HB.out)) HC0_0.out (zk (Kd.C_below HR0_1.out HB.out)) HC0_1.out A5.out).mono ?_); rintro e w20 ⟨rfl, hb⟩; refine ⟨_, rfl, ?_⟩; replace BK528 := zm (blk_below (zb BK528) hb); replace HB := zm (below_step zB hb); clear hb) | ((with_reducible refine gate_dst (N := 5) rfl ?_); refine zbox 5 #[.int .i64 0, .int .i64 0, .int .i64 0, .int .i64 0, .string (⟨#[]⟩ : ByteArray)] 25 ?_; intro gb536 hg w21 hbox hb; have BK536 := zm (hbox); have GW536 := zge w hg zB; have GE536 := zge w hg zB; replace HB := zm (below_step zB hb); have NB528_536 := zlt hg (zb BK528); have NB536_528 := zgt hg (zb BK528); replace BK528 := zm (blk_below (zb BK528) hb); clear hb hbox hg; have hnb22 := NB536_528.out; have hnc22 := NB528_536.out; have hcz23_0 : w21.cell? ⟨gb536, 0, none⟩ = some (.int .i64 0) := (blk_cell BK536.out 0).trans rfl; have hcz23_1 : w21.cell? ⟨gb536, 1, none⟩ = some (.int .i64 0) := (blk_cell BK536.out 1).trans rfl; have hcz23_2 : w21.cell? ⟨gb536, 2, none⟩ = some (.int .i64 0) := (blk_cell BK536.out 2).trans rfl; have hcz23_3 : w21.cell? ⟨gb536, 3, none⟩ = some (.int .i64 0) := (blk_cell BK536.out 3).trans rfl; have hcz23_4 : w21.cell? ⟨gb536, 4, none⟩ = some (.string (⟨#[]⟩ : ByteArray)) := (blk_cell BK536.out 4).trans rfl; have hfz23_0 := blk_frozen BK536.out 0; have hfz23_1 := blk_frozen BK536.out 1; have hfz23_2 := blk_frozen BK536.out 2; have hfz23_3 := blk_frozen BK536.out 3; have hfz23_4 := blk_frozen BK536.out 4))
    go_ret
    exact ⟨zE, zB⟩
  ·replace c6 := Bool.eq_false_iff.mpr c6
   subst c6
   have H1 : ((spec_FloorOf.f k l0_0 l0_1 a1).bind fun t537 => (some t537)) = some r := by rw [if_neg (show ¬ (false = true) by decide)] at H; exact H
   clear H
   have H := H1
   clear H1
   replace H := Option.bind_eq_some_iff.mp H
   obtain ⟨t537, A240, H⟩ := H
   replace H : (some t537) = some r := H
   have A24 := zm A240
   clear A240
   obtain rfl := Option.some.inj H
   go_enter Try.func50, Try.ntmps50
   go_wp2_with (first | ((with_reducible refine gate_dst (N := 2) rfl ?_); refine zbox 2 #[.slice A0_0 l0_0.length c0_0, .slice A0_1 l0_1.length c0_1] 55 ?_; intro gb528 hg w25 hbox hb; have BK528 := zm (hbox); have GW528 := zge w hg zB; have GE528 := zge w hg zB; replace HB := zm (below_step zB hb); clear hb hbox hg; have hcz26_0 : w25.cell? ⟨gb528, 0, none⟩ = some (.slice A0_0 l0_0.length c0_0) := (blk_cell BK528.out 0).trans rfl; have hcz26_1 : w25.cell? ⟨gb528, 1, none⟩ = some (.slice A0_1 l0_1.length c0_1) := (blk_cell BK528.out 1).trans rfl; have hfz26_0 := blk_frozen BK528.out 0; have hfz26_1 := blk_frozen BK528.out 1) | ((with_reducible refine gate_callee (f := 44) rfl ?_); refine zg (some 8) #[.agg #[.slice A0_0 l0_0.length c0_0, .slice A0_1 l0_1.length c0_1]] Try.func44 ?_; (with_reducible refine (spec_StateOk.calls k _ _ l0_0 _ _ l0_1 true _ (zk (Kd.C_below HR0_0.out HB.out)) HC0_0.out (zk (Kd.C_below HR0_1.out HB.out)) HC0_1.out A3.out).mono ?_); rintro e w27 ⟨rfl, hb⟩; refine ⟨_, rfl, ?_⟩; replace BK528 := zm (blk_below (zb BK528) hb); replace HB := zm (below_step zB hb); clear hb; have hcz28_0 : w27.cell? ⟨gb528, 0, none⟩ = some (.slice A0_0 l0_0.length c0_0) := (blk_cell BK528.out 0).trans rfl; have hcz28_1 : w27.cell? ⟨gb528, 1, none⟩ = some (.slice A0_1 l0_1.length c0_1) := (blk_cell BK528.out 1).trans rfl; have hfz28_0 := blk_frozen BK528.out 0; have hfz28_1 := blk_frozen BK528.out 1) | ((with_reducible refine gate_callee (f := 36) rfl ?_); refine zg (some 13) #[.agg #[.slice A0_0 l0_0.length c0_0, .slice A0_1 l0_1.length c0_1], .int .i64 a1] Try.func36 ?_; (with_reducible refine (spec_EntryOf.calls k _ _ l0_0 _ _ l0_1 a1 t530 t531 t532 t533 t534 false _ (zk (Kd.C_below HR0_0.out HB.out)) HC0_0.out (zk (Kd.C_below HR0_1.out HB.out)) HC0_1.out A5.out).mono ?_); rintro e w29 ⟨rfl, hb⟩; refine ⟨_, rfl, ?_⟩; replace BK528 := zm (blk_below (zb BK528) hb); replace HB := zm (below_step zB hb); clear hb) | ((with_reducible refine gate_dst (N := 5) rfl ?_); refine zbox 5 #[.int .i64 0, .int .i64 0, .int .i64 0, .int .i64 0, .string (⟨#[]⟩ : ByteArray)] 25 ?_; intro gb536 hg w30 hbox hb; have BK536 := zm (hbox); have GW536 := zge w hg zB; have GE536 := zge w hg zB; replace HB := zm (below_step zB hb); have NB528_536 := zlt hg (zb BK528); have NB536_528 := zgt hg (zb BK528); replace BK528 := zm (blk_below (zb BK528) hb); clear hb hbox hg; have hnb31 := NB536_528.out; have hnc31 := NB528_536.out; have hcz32_0 : w30.cell? ⟨gb536, 0, none⟩ = some (.int .i64 0) := (blk_cell BK536.out 0).trans rfl; have hcz32_1 : w30.cell? ⟨gb536, 1, none⟩ = some (.int .i64 0) := (blk_cell BK536.out 1).trans rfl; have hcz32_2 : w30.cell? ⟨gb536, 2, none⟩ = some (.int .i64 0) := (blk_cell BK536.out 2).trans rfl; have hcz32_3 : w30.cell? ⟨gb536, 3, none⟩ = some (.int .i64 0) := (blk_cell BK536.out 3).trans rfl; have hcz32_4 : w30.cell? ⟨gb536, 4, none⟩ = some (.string (⟨#[]⟩ : ByteArray)) := (blk_cell BK536.out 4).trans rfl; have hfz32_0 := blk_frozen BK536.out 0; have hfz32_1 := blk_frozen BK536.out 1; have hfz32_2 := blk_frozen BK536.out 2; have hfz32_3 := blk_frozen BK536.out 3; have hfz32_4 := blk_frozen BK536.out 4; have hcz33_0 : w30.cell? ⟨gb528, 0, none⟩ = some (.slice A0_0 l0_0.length c0_0) := (blk_cell BK528.out 0).trans rfl; have hcz33_1 : w30.cell? ⟨gb528, 1, none⟩ = some (.slice A0_1 l0_1.length c0_1) := (blk_cell BK528.out 1).trans rfl; have hfz33_0 := blk_frozen BK528.out 0; have hfz33_1 := blk_frozen BK528.out 1) | ((with_reducible refine gate_callee (f := 40) rfl ?_); refine zg (some 20) #[.agg #[.slice A0_0 l0_0.length c0_0, .slice A0_1 l0_1.length c0_1], .int .i64 a1] Try.func40 ?_; (with_reducible refine (spec_FloorOf.calls k _ _ l0_0 _ _ l0_1 a1 t537 _ ?side1 HC0_0.out ?side3 HC0_1.out A24.out).mono ?_); (case side1 => exact Kd.C_below HR0_0.out zB); (case side3 => exact Kd.C_below HR0_1.out zB); rintro e w34 ⟨rfl, hb⟩; refine ⟨_, rfl, ?_⟩; replace BK528 := zm (blk_below (g := gb528) (o := .cells #[.slice A0_0 l0_0.length c0_0, .slice A0_1 l0_1.length c0_1] 55 (0, 0)) (zfar (zfar (zfar (zfar (zfar (zb BK528) NB528_536) NB528_536) NB528_536) NB528_536) NB528_536) hb); replace BK536 := zm (blk_below (g := gb536) (o := .cells #[.int .i64 t530, .int .i64 t531, .int .i64 t532, .int .i64 t533, .string t534] 25 (0, 0)) (zput (zput (zput (zput (zput (zb BK536) 0) 1) 2) 3) 4) hb); replace HB := zm (below_step zB hb); clear hb))
   go_ret
   exact ⟨zE, zB⟩
 ·replace c4 := Bool.eq_false_iff.mpr c4
  subst c4
  have H1 : (some 0) = some r := by rw [if_neg (show ¬ (false = true) by decide)] at H; exact H
  clear H
  have H := H1
  clear H1
  obtain rfl := Option.some.inj H
  go_enter Try.func50, Try.ntmps50
  go_wp2_with (first | ((with_reducible refine gate_dst (N := 2) rfl ?_); refine zbox 2 #[.slice A0_0 l0_0.length c0_0, .slice A0_1 l0_1.length c0_1] 55 ?_; intro gb528 hg w35 hbox hb; have BK528 := zm (hbox); have GW528 := zge w hg zB; have GE528 := zge w hg zB; replace HB := zm (below_step zB hb); clear hb hbox hg; have hcz36_0 : w35.cell? ⟨gb528, 0, none⟩ = some (.slice A0_0 l0_0.length c0_0) := (blk_cell BK528.out 0).trans rfl; have hcz36_1 : w35.cell? ⟨gb528, 1, none⟩ = some (.slice A0_1 l0_1.length c0_1) := (blk_cell BK528.out 1).trans rfl; have hfz36_0 := blk_frozen BK528.out 0; have hfz36_1 := blk_frozen BK528.out 1) | ((with_reducible refine gate_callee (f := 44) rfl ?_); refine zg (some 8) #[.agg #[.slice A0_0 l0_0.length c0_0, .slice A0_1 l0_1.length c0_1]] Try.func44 ?_; (with_reducible refine (spec_StateOk.calls k _ _ l0_0 _ _ l0_1 false _ (zk (Kd.C_below HR0_0.out HB.out)) HC0_0.out (zk (Kd.C_below HR0_1.out HB.out)) HC0_1.out A3.out).mono ?_); rintro e w37 ⟨rfl, hb⟩; refine ⟨_, rfl, ?_⟩; replace BK528 := zm (blk_below (zb BK528) hb); replace HB := zm (below_step zB hb); clear hb))
  go_ret
  exact ⟨zE, zB⟩

/-! ### impl_GoneAt: function 51 -/
def impl_GoneAt.f (k : Nat) (l0_0 : List (S84)) (l0_1 : List (S89)) (a1 : Int) : Option (Int) := (impl_StateOk.f k l0_0 l0_1).bind fun t539 => (if t539 = true then ((impl_EntryOf.f k l0_0 l0_1 a1).bind fun bt540 => (if bt540.2.2.2.2.2 = true then (if bt540.2.1 = 1 then (some bt540.1) else (some (wrap64 (bt540.1 - 1)))) else ((impl_FloorOf.f k l0_0 l0_1 a1).bind fun t547 => (some t547)))) else (some 0))
theorem impl_GoneAt.mono : ∀ a0 a1 a2 k, LeO (impl_GoneAt.f k a0 a1 a2) (impl_GoneAt.f (k + 1) a0 a1 a2) := by
 intro a0 a1 a2 k
 unfold impl_GoneAt.f
 repeat' first
   | (with_reducible exact impl_EntryOf.mono _ _ _ _)
   | (with_reducible exact impl_FloorOf.mono _ _ _ _)
   | (with_reducible exact impl_StateOk.mono _ _ _)
   | (with_reducible exact LeO.refl _)
   | (with_reducible exact LeO.none _)
   | (with_reducible refine LeO.ite ?_ ?_)
   | (with_reducible refine LeO.bind ?_ (fun _ => ?_))
   | exact impl_EntryOf.mono _ _ _ _
   | exact impl_FloorOf.mono _ _ _ _
   | exact impl_StateOk.mono _ _ _
   | exact LeO.none _
   | refine LeO.ite ?_ ?_
   | refine LeO.bind ?_ (fun _ => ?_)
set_option maxHeartbeats 8000000 in
set_option maxRecDepth 100000 in
theorem impl_GoneAt.calls (k : Nat) (A0_0 : Option Addr) (c0_0 : Nat) (l0_0 : List (S84)) (A0_1 : Option Addr) (c0_1 : Nat) (l0_1 : List (S89)) (a1 : Int) (r : Int) (w : World) (hr0_0 : Kd.C k84 w A0_0 l0_0.length l0_0) (hc0_0 : l0_0.length ≤ c0_0) (hr0_1 : Kd.C k89 w A0_1 l0_1.length l0_1) (hc0_1 : l0_1.length ≤ c0_1) (h : impl_GoneAt.f k l0_0 l0_1 a1 = some r) :
  Calls Try.prog 51 #[.agg #[.slice A0_0 l0_0.length c0_0, .slice A0_1 l0_1.length c0_1], .int .i64 a1] w fun e w' => e = .returned (.int .i64 r) ∧ Below w.heap.size w w' := by
 have hu55 := Try.underlying55
 have hu25 := Try.underlying25
 have HR0_0 := zm hr0_0
 have HC0_0 := zm hc0_0
 clear hr0_0 hc0_0
 have HR0_1 := zm hr0_1
 have HC0_1 := zm hc0_1
 clear hr0_1 hc0_1
 have HB := zm (Below.refl w.heap.size w)
 have H : ((impl_StateOk.f k l0_0 l0_1).bind fun t539 => (if t539 = true then ((impl_EntryOf.f k l0_0 l0_1 a1).bind fun bt540 => (if bt540.2.2.2.2.2 = true then (if bt540.2.1 = 1 then (some bt540.1) else (some (wrap64 (bt540.1 - 1)))) else ((impl_FloorOf.f k l0_0 l0_1 a1).bind fun t547 => (some t547)))) else (some 0))) = some r := h
 clear h
 replace H := Option.bind_eq_some_iff.mp H
 obtain ⟨t539, A30, H⟩ := H
 replace H : (if t539 = true then ((impl_EntryOf.f k l0_0 l0_1 a1).bind fun bt540 => (if bt540.2.2.2.2.2 = true then (if bt540.2.1 = 1 then (some bt540.1) else (some (wrap64 (bt540.1 - 1)))) else ((impl_FloorOf.f k l0_0 l0_1 a1).bind fun t547 => (some t547)))) else (some 0)) = some r := H
 have A3 := zm A30
 clear A30
 by_cases c4 : t539 = true
 ·subst c4
  have H1 : ((impl_EntryOf.f k l0_0 l0_1 a1).bind fun bt540 => (if bt540.2.2.2.2.2 = true then (if bt540.2.1 = 1 then (some bt540.1) else (some (wrap64 (bt540.1 - 1)))) else ((impl_FloorOf.f k l0_0 l0_1 a1).bind fun t547 => (some t547)))) = some r := by rw [if_pos rfl] at H; exact H
  clear H
  have H := H1
  clear H1
  replace H := Option.bind_eq_some_iff.mp H
  obtain ⟨⟨t540, t541, t542, t543, t544, t545⟩, A50, H⟩ := H
  replace H : (if t545 = true then (if t541 = 1 then (some t540) else (some (wrap64 (t540 - 1)))) else ((impl_FloorOf.f k l0_0 l0_1 a1).bind fun t547 => (some t547))) = some r := H
  have A5 := zm A50
  clear A50
  by_cases c6 : t545 = true
  ·subst c6
   have H1 : (if t541 = 1 then (some t540) else (some (wrap64 (t540 - 1)))) = some r := by rw [if_pos rfl] at H; exact H
   clear H
   have H := H1
   clear H1
   by_cases c7 : t541 = 1
   ·rw [if_pos c7] at H
    have c7b0 : (t541 == 1) = true := beq_iff_eq.mpr c7
    have c7b1 : (t541 != 1) = false := bne_eq_false_iff_eq.mpr c7
    clear c7
    obtain rfl := Option.some.inj H
    go_enter Try.func51, Try.ntmps51
    go_wp2_with (first | ((with_reducible refine gate_dst (N := 2) rfl ?_); refine zbox 2 #[.slice A0_0 l0_0.length c0_0, .slice A0_1 l0_1.length c0_1] 55 ?_; intro gb538 hg w8 hbox hb; have BK538 := zm (hbox); have GW538 := zge w hg zB; have GE538 := zge w hg zB; replace HB := zm (below_step zB hb); clear hb hbox hg; have hcz9_0 : w8.cell? ⟨gb538, 0, none⟩ = some (.slice A0_0 l0_0.length c0_0) := (blk_cell BK538.out 0).trans rfl; have hcz9_1 : w8.cell? ⟨gb538, 1, none⟩ = some (.slice A0_1 l0_1.length c0_1) := (blk_cell BK538.out 1).trans rfl; have hfz9_0 := blk_frozen BK538.out 0; have hfz9_1 := blk_frozen BK538.out 1) | ((with_reducible refine gate_callee (f := 45) rfl ?_); refine zg (some 8) #[.agg #[.slice A0_0 l0_0.length c0_0, .slice A0_1 l0_1.length c0_1]] Try.func45 ?_; (with_reducible refine (impl_StateOk.calls k _ _ l0_0 _ _ l0_1 true _ (zk (Kd.C_below HR0_0.out HB.out)) HC0_0.out (zk (Kd.C_below HR0_1.out HB.out)) HC0_1.out A3.out).mono ?_); rintro e w10 ⟨rfl, hb⟩; refine ⟨_, rfl, ?_⟩; replace BK538 := zm (blk_below (zb BK538) hb); replace HB := zm (below_step zB hb); clear hb; have hcz11_0 : w10.cell? ⟨gb538, 0, none⟩ = some (.slice A0_0 l0_0.length c0_0) := (blk_cell BK538.out 0).trans rfl; have hcz11_1 : w10.cell? ⟨gb538, 1, none⟩ = some (.slice A0_1 l0_1.length c0_1) := (blk_cell BK538.out 1).trans rfl; have hfz11_0 := blk_frozen BK538.out 0; have hfz11_1 := blk_frozen BK538.out 1) | ((with_reducible refine gate_callee (f := 38) rfl ?_); refine zg (some 13) #[.agg #[.slice A0_0 l0_0.length c0_0, .slice A0_1 l0_1.length c0_1], .int .i64 a1] Try.func38 ?_; (with_reducible refine (impl_EntryOf.calls k _ _ l0_0 _ _ l0_1 a1 t540 t541 t542 t543 t544 true _ (zk (Kd.C_below HR0_0.out HB.out)) HC0_0.out (zk (Kd.C_below HR0_1.out HB.out)) HC0_1.out A5.out).mono ?_); rintro e w12 ⟨rfl, hb⟩; refine ⟨_, rfl, ?_⟩; replace BK538 := zm (blk_below (zb BK538) hb); replace HB := zm (below_step zB hb); clear hb) | ((with_reducible refine gate_dst (N := 5) rfl ?_); refine zbox 5 #[.int .i64 0, .int .i64 0, .int .i64 0, .int .i64 0, .string (⟨#[]⟩ : ByteArray)] 25 ?_; intro gb546 hg w13 hbox hb; have BK546 := zm (hbox); have GW546 := zge w hg zB; have GE546 := zge w hg zB; replace HB := zm (below_step zB hb); have NB538_546 := zlt hg (zb BK538); have NB546_538 := zgt hg (zb BK538); replace BK538 := zm (blk_below (zb BK538) hb); clear hb hbox hg; have hnb14 := NB546_538.out; have hnc14 := NB538_546.out; have hcz15_0 : w13.cell? ⟨gb546, 0, none⟩ = some (.int .i64 0) := (blk_cell BK546.out 0).trans rfl; have hcz15_1 : w13.cell? ⟨gb546, 1, none⟩ = some (.int .i64 0) := (blk_cell BK546.out 1).trans rfl; have hcz15_2 : w13.cell? ⟨gb546, 2, none⟩ = some (.int .i64 0) := (blk_cell BK546.out 2).trans rfl; have hcz15_3 : w13.cell? ⟨gb546, 3, none⟩ = some (.int .i64 0) := (blk_cell BK546.out 3).trans rfl; have hcz15_4 : w13.cell? ⟨gb546, 4, none⟩ = some (.string (⟨#[]⟩ : ByteArray)) := (blk_cell BK546.out 4).trans rfl; have hfz15_0 := blk_frozen BK546.out 0; have hfz15_1 := blk_frozen BK546.out 1; have hfz15_2 := blk_frozen BK546.out 2; have hfz15_3 := blk_frozen BK546.out 3; have hfz15_4 := blk_frozen BK546.out 4))
    go_ret
    exact ⟨zE, zB⟩
   ·rw [if_neg c7] at H
    have c7b0 : (t541 == 1) = false := beq_eq_false_iff_ne.mpr c7
    have c7b1 : (t541 != 1) = true := bne_iff_ne.mpr c7
    obtain rfl := Option.some.inj H
    go_enter Try.func51, Try.ntmps51
    go_wp2_with (first | ((with_reducible refine gate_dst (N := 2) rfl ?_); refine zbox 2 #[.slice A0_0 l0_0.length c0_0, .slice A0_1 l0_1.length c0_1] 55 ?_; intro gb538 hg w16 hbox hb; have BK538 := zm (hbox); have GW538 := zge w hg zB; have GE538 := zge w hg zB; replace HB := zm (below_step zB hb); clear hb hbox hg; have hcz17_0 : w16.cell? ⟨gb538, 0, none⟩ = some (.slice A0_0 l0_0.length c0_0) := (blk_cell BK538.out 0).trans rfl; have hcz17_1 : w16.cell? ⟨gb538, 1, none⟩ = some (.slice A0_1 l0_1.length c0_1) := (blk_cell BK538.out 1).trans rfl; have hfz17_0 := blk_frozen BK538.out 0; have hfz17_1 := blk_frozen BK538.out 1) | ((with_reducible refine gate_callee (f := 45) rfl ?_); refine zg (some 8) #[.agg #[.slice A0_0 l0_0.length c0_0, .slice A0_1 l0_1.length c0_1]] Try.func45 ?_; (with_reducible refine (impl_StateOk.calls k _ _ l0_0 _ _ l0_1 true _ (zk (Kd.C_below HR0_0.out HB.out)) HC0_0.out (zk (Kd.C_below HR0_1.out HB.out)) HC0_1.out A3.out).mono ?_); rintro e w18 ⟨rfl, hb⟩; refine ⟨_, rfl, ?_⟩; replace BK538 := zm (blk_below (zb BK538) hb); replace HB := zm (below_step zB hb); clear hb; have hcz19_0 : w18.cell? ⟨gb538, 0, none⟩ = some (.slice A0_0 l0_0.length c0_0) := (blk_cell BK538.out 0).trans rfl; have hcz19_1 : w18.cell? ⟨gb538, 1, none⟩ = some (.slice A0_1 l0_1.length c0_1) := (blk_cell BK538.out 1).trans rfl; have hfz19_0 := blk_frozen BK538.out 0; have hfz19_1 := blk_frozen BK538.out 1) | ((with_reducible refine gate_callee (f := 38) rfl ?_); refine zg (some 13) #[.agg #[.slice A0_0 l0_0.length c0_0, .slice A0_1 l0_1.length c0_1], .int .i64 a1] Try.func38 ?_; (with_reducible refine (impl_EntryOf.calls k _ _ l0_0 _ _ l0_1 a1 t540 t541 t542 t543 t544 true _ (zk (Kd.C_below HR0_0.out HB.out)) HC0_0.out (zk (Kd.C_below HR0_1.out HB.out)) HC0_1.out A5.out).mono ?_); rintro e w20 ⟨rfl, hb⟩; refine ⟨_, rfl, ?_⟩; replace BK538 := zm (blk_below (zb BK538) hb); replace HB := zm (below_step zB hb); clear hb) | ((with_reducible refine gate_dst (N := 5) rfl ?_); refine zbox 5 #[.int .i64 0, .int .i64 0, .int .i64 0, .int .i64 0, .string (⟨#[]⟩ : ByteArray)] 25 ?_; intro gb546 hg w21 hbox hb; have BK546 := zm (hbox); have GW546 := zge w hg zB; have GE546 := zge w hg zB; replace HB := zm (below_step zB hb); have NB538_546 := zlt hg (zb BK538); have NB546_538 := zgt hg (zb BK538); replace BK538 := zm (blk_below (zb BK538) hb); clear hb hbox hg; have hnb22 := NB546_538.out; have hnc22 := NB538_546.out; have hcz23_0 : w21.cell? ⟨gb546, 0, none⟩ = some (.int .i64 0) := (blk_cell BK546.out 0).trans rfl; have hcz23_1 : w21.cell? ⟨gb546, 1, none⟩ = some (.int .i64 0) := (blk_cell BK546.out 1).trans rfl; have hcz23_2 : w21.cell? ⟨gb546, 2, none⟩ = some (.int .i64 0) := (blk_cell BK546.out 2).trans rfl; have hcz23_3 : w21.cell? ⟨gb546, 3, none⟩ = some (.int .i64 0) := (blk_cell BK546.out 3).trans rfl; have hcz23_4 : w21.cell? ⟨gb546, 4, none⟩ = some (.string (⟨#[]⟩ : ByteArray)) := (blk_cell BK546.out 4).trans rfl; have hfz23_0 := blk_frozen BK546.out 0; have hfz23_1 := blk_frozen BK546.out 1; have hfz23_2 := blk_frozen BK546.out 2; have hfz23_3 := blk_frozen BK546.out 3; have hfz23_4 := blk_frozen BK546.out 4))
    go_ret
    exact ⟨zE, zB⟩
  ·replace c6 := Bool.eq_false_iff.mpr c6
   subst c6
   have H1 : ((impl_FloorOf.f k l0_0 l0_1 a1).bind fun t547 => (some t547)) = some r := by rw [if_neg (show ¬ (false = true) by decide)] at H; exact H
   clear H
   have H := H1
   clear H1
   replace H := Option.bind_eq_some_iff.mp H
   obtain ⟨t547, A240, H⟩ := H
   replace H : (some t547) = some r := H
   have A24 := zm A240
   clear A240
   obtain rfl := Option.some.inj H
   go_enter Try.func51, Try.ntmps51
   go_wp2_with (first | ((with_reducible refine gate_dst (N := 2) rfl ?_); refine zbox 2 #[.slice A0_0 l0_0.length c0_0, .slice A0_1 l0_1.length c0_1] 55 ?_; intro gb538 hg w25 hbox hb; have BK538 := zm (hbox); have GW538 := zge w hg zB; have GE538 := zge w hg zB; replace HB := zm (below_step zB hb); clear hb hbox hg; have hcz26_0 : w25.cell? ⟨gb538, 0, none⟩ = some (.slice A0_0 l0_0.length c0_0) := (blk_cell BK538.out 0).trans rfl; have hcz26_1 : w25.cell? ⟨gb538, 1, none⟩ = some (.slice A0_1 l0_1.length c0_1) := (blk_cell BK538.out 1).trans rfl; have hfz26_0 := blk_frozen BK538.out 0; have hfz26_1 := blk_frozen BK538.out 1) | ((with_reducible refine gate_callee (f := 45) rfl ?_); refine zg (some 8) #[.agg #[.slice A0_0 l0_0.length c0_0, .slice A0_1 l0_1.length c0_1]] Try.func45 ?_; (with_reducible refine (impl_StateOk.calls k _ _ l0_0 _ _ l0_1 true _ (zk (Kd.C_below HR0_0.out HB.out)) HC0_0.out (zk (Kd.C_below HR0_1.out HB.out)) HC0_1.out A3.out).mono ?_); rintro e w27 ⟨rfl, hb⟩; refine ⟨_, rfl, ?_⟩; replace BK538 := zm (blk_below (zb BK538) hb); replace HB := zm (below_step zB hb); clear hb; have hcz28_0 : w27.cell? ⟨gb538, 0, none⟩ = some (.slice A0_0 l0_0.length c0_0) := (blk_cell BK538.out 0).trans rfl; have hcz28_1 : w27.cell? ⟨gb538, 1, none⟩ = some (.slice A0_1 l0_1.length c0_1) := (blk_cell BK538.out 1).trans rfl; have hfz28_0 := blk_frozen BK538.out 0; have hfz28_1 := blk_frozen BK538.out 1) | ((with_reducible refine gate_callee (f := 38) rfl ?_); refine zg (some 13) #[.agg #[.slice A0_0 l0_0.length c0_0, .slice A0_1 l0_1.length c0_1], .int .i64 a1] Try.func38 ?_; (with_reducible refine (impl_EntryOf.calls k _ _ l0_0 _ _ l0_1 a1 t540 t541 t542 t543 t544 false _ (zk (Kd.C_below HR0_0.out HB.out)) HC0_0.out (zk (Kd.C_below HR0_1.out HB.out)) HC0_1.out A5.out).mono ?_); rintro e w29 ⟨rfl, hb⟩; refine ⟨_, rfl, ?_⟩; replace BK538 := zm (blk_below (zb BK538) hb); replace HB := zm (below_step zB hb); clear hb) | ((with_reducible refine gate_dst (N := 5) rfl ?_); refine zbox 5 #[.int .i64 0, .int .i64 0, .int .i64 0, .int .i64 0, .string (⟨#[]⟩ : ByteArray)] 25 ?_; intro gb546 hg w30 hbox hb; have BK546 := zm (hbox); have GW546 := zge w hg zB; have GE546 := zge w hg zB; replace HB := zm (below_step zB hb); have NB538_546 := zlt hg (zb BK538); have NB546_538 := zgt hg (zb BK538); replace BK538 := zm (blk_below (zb BK538) hb); clear hb hbox hg; have hnb31 := NB546_538.out; have hnc31 := NB538_546.out; have hcz32_0 : w30.cell? ⟨gb546, 0, none⟩ = some (.int .i64 0) := (blk_cell BK546.out 0).trans rfl; have hcz32_1 : w30.cell? ⟨gb546, 1, none⟩ = some (.int .i64 0) := (blk_cell BK546.out 1).trans rfl; have hcz32_2 : w30.cell? ⟨gb546, 2, none⟩ = some (.int .i64 0) := (blk_cell BK546.out 2).trans rfl; have hcz32_3 : w30.cell? ⟨gb546, 3, none⟩ = some (.int .i64 0) := (blk_cell BK546.out 3).trans rfl; have hcz32_4 : w30.cell? ⟨gb546, 4, none⟩ = some (.string (⟨#[]⟩ : ByteArray)) := (blk_cell BK546.out 4).trans rfl; have hfz32_0 := blk_frozen BK546.out 0; have hfz32_1 := blk_frozen BK546.out 1; have hfz32_2 := blk_frozen BK546.out 2; have hfz32_3 := blk_frozen BK546.out 3; have hfz32_4 := blk_frozen BK546.out 4; have hcz33_0 : w30.cell? ⟨gb538, 0, none⟩ = some (.slice A0_0 l0_0.length c0_0) := (blk_cell BK538.out 0).trans rfl; have hcz33_1 : w30.cell? ⟨gb538, 1, none⟩ = some (.slice A0_1 l0_1.length c0_1) := (blk_cell BK538.out 1).trans rfl; have hfz33_0 := blk_frozen BK538.out 0; have hfz33_1 := blk_frozen BK538.out 1) | ((with_reducible refine gate_callee (f := 41) rfl ?_); refine zg (some 21) #[.agg #[.slice A0_0 l0_0.length c0_0, .slice A0_1 l0_1.length c0_1], .int .i64 a1] Try.func41 ?_; (with_reducible refine (impl_FloorOf.calls k _ _ l0_0 _ _ l0_1 a1 t547 _ ?side1 HC0_0.out ?side3 HC0_1.out A24.out).mono ?_); (case side1 => exact Kd.C_below HR0_0.out zB); (case side3 => exact Kd.C_below HR0_1.out zB); rintro e w34 ⟨rfl, hb⟩; refine ⟨_, rfl, ?_⟩; replace BK538 := zm (blk_below (g := gb538) (o := .cells #[.slice A0_0 l0_0.length c0_0, .slice A0_1 l0_1.length c0_1] 55 (0, 0)) (zfar (zfar (zfar (zfar (zfar (zb BK538) NB538_546) NB538_546) NB538_546) NB538_546) NB538_546) hb); replace BK546 := zm (blk_below (g := gb546) (o := .cells #[.int .i64 t540, .int .i64 t541, .int .i64 t542, .int .i64 t543, .string t544] 25 (0, 0)) (zput (zput (zput (zput (zput (zb BK546) 0) 1) 2) 3) 4) hb); replace HB := zm (below_step zB hb); clear hb))
   go_ret
   exact ⟨zE, zB⟩
 ·replace c4 := Bool.eq_false_iff.mpr c4
  subst c4
  have H1 : (some 0) = some r := by rw [if_neg (show ¬ (false = true) by decide)] at H; exact H
  clear H
  have H := H1
  clear H1
  obtain rfl := Option.some.inj H
  go_enter Try.func51, Try.ntmps51
  go_wp2_with (first | ((with_reducible refine gate_dst (N := 2) rfl ?_); refine zbox 2 #[.slice A0_0 l0_0.length c0_0, .slice A0_1 l0_1.length c0_1] 55 ?_; intro gb538 hg w35 hbox hb; have BK538 := zm (hbox); have GW538 := zge w hg zB; have GE538 := zge w hg zB; replace HB := zm (below_step zB hb); clear hb hbox hg; have hcz36_0 : w35.cell? ⟨gb538, 0, none⟩ = some (.slice A0_0 l0_0.length c0_0) := (blk_cell BK538.out 0).trans rfl; have hcz36_1 : w35.cell? ⟨gb538, 1, none⟩ = some (.slice A0_1 l0_1.length c0_1) := (blk_cell BK538.out 1).trans rfl; have hfz36_0 := blk_frozen BK538.out 0; have hfz36_1 := blk_frozen BK538.out 1) | ((with_reducible refine gate_callee (f := 45) rfl ?_); refine zg (some 8) #[.agg #[.slice A0_0 l0_0.length c0_0, .slice A0_1 l0_1.length c0_1]] Try.func45 ?_; (with_reducible refine (impl_StateOk.calls k _ _ l0_0 _ _ l0_1 false _ (zk (Kd.C_below HR0_0.out HB.out)) HC0_0.out (zk (Kd.C_below HR0_1.out HB.out)) HC0_1.out A3.out).mono ?_); rintro e w37 ⟨rfl, hb⟩; refine ⟨_, rfl, ?_⟩; replace BK538 := zm (blk_below (zb BK538) hb); replace HB := zm (below_step zB hb); clear hb))
  go_ret
  exact ⟨zE, zB⟩

end Go.Proofs.Ythljdiniccpobaa.P
