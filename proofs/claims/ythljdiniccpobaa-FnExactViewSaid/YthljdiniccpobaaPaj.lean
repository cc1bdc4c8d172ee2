-- by a program of this session, for this seat
import Derived.Test.YthljdiniccpobaaZ
import Derived.Test.YthljdiniccpobaaP0
import Derived.Test.YthljdiniccpobaaPag
import Derived.Test.YthljdiniccpobaaPai
namespace Go.Proofs.Ythljdiniccpobaa.P
open Go.RowKit Go.Proofs.YthljdiniccpobaaW.PrintWords Go.Proofs.YthljdiniccpobaaW.PrintLast Go.Proofs.YthljdiniccpobaaW.PrintMore Go.Proofs.Ythljdiniccpobaa.Z
attribute [local go_sem] max2_int min2_int max_two min_two max_three min_three max_four min_four   -- for this text's walks alone
set_option linter.unusedVariables false
set_option linter.unusedSimpArgs false

/-! ### spec_Single: function 46 -/
def spec_Single.f (k : Nat) (a0 : Int) (a1_0 : Int) (a1_1 : Int) (a1_2 : Int) (a1_3 : Int) (a1_4 : ByteArray) : Option ((List (S84)) × (List (S89)) × Bool) := (some (([(⟨a0, (⟨a1_0, a1_1, a1_2, a1_3, a1_4⟩ : S25)⟩ : S84)] : List (S84)) : List (S84))).bind fun y439 => ((spec_StateOk.f k y439 ([] : List (S89))).bind fun t443 => (if t443 = true then (some (y439, ([] : List (S89)), true)) else (some (([] : List (S84)), ([] : List (S89)), false))))
theorem spec_Single.mono : ∀ a0 a1 a2 a3 a4 a5 k, LeO (spec_Single.f k a0 a1 a2 a3 a4 a5) (spec_Single.f (k + 1) a0 a1 a2 a3 a4 a5) := by
 intro a0 a1 a2 a3 a4 a5 k
 unfold spec_Single.f
 repeat' first
   | (with_reducible exact spec_StateOk.mono _ _ _)
   | (with_reducible exact LeO.refl _)
   | (with_reducible exact LeO.none _)
   | (with_reducible refine LeO.ite ?_ ?_)
   | (with_reducible refine LeO.bind ?_ (fun _ => ?_))
   | exact spec_StateOk.mono _ _ _
   | exact LeO.none _
   | refine LeO.ite ?_ ?_
   | refine LeO.bind ?_ (fun _ => ?_)
set_option maxHeartbeats 8000000 in
set_option maxRecDepth 100000 in
theorem spec_Single.calls (k : Nat) (a0 : Int) (a1_0 : Int) (a1_1 : Int) (a1_2 : Int) (a1_3 : Int) (a1_4 : ByteArray) (r1 : List (S84)) (r2 : List (S89)) (r3 : Bool) (w : World) (h : spec_Single.f k a0 a1_0 a1_1 a1_2 a1_3 a1_4 = some (r1, r2, r3)) :
  Calls Try.prog 46 #[.int .i64 a0, .agg #[.int .i64 a1_0, .int .i64 a1_1, .int .i64 a1_2, .int .i64 a1_3, .string a1_4]] w fun e w' => ∃ v0_ v1_ : Value, e = .returned (.tuple #[.agg #[v0_, v1_], .bool r3]) ∧ Kd.R k84 84 w' w.heap.size (fun _ => True) v0_ r1 ∧ Kd.R k89 89 w' w.heap.size (fun _ => True) v1_ r2 ∧ Below w.heap.size w w' := by
 have hu25 := Try.underlying25
 have hu55 := Try.underlying55
 have hu84 := Try.underlying84
 have HB := zm (Below.refl w.heap.size w)
 have H : ((some (([(⟨a0, (⟨a1_0, a1_1, a1_2, a1_3, a1_4⟩ : S25)⟩ : S84)] : List (S84)) : List (S84))).bind fun y439 => ((spec_StateOk.f k y439 ([] : List (S89))).bind fun t443 => (if t443 = true then (some (y439, ([] : List (S89)), true)) else (some (([] : List (S84)), ([] : List (S89)), false))))) = some (r1, r2, r3) := h
 clear h
 obtain ⟨y439, hy439⟩ : ∃ y_ : List (S84), y_ = (([(⟨a0, (⟨a1_0, a1_1, a1_2, a1_3, a1_4⟩ : S25)⟩ : S84)] : List (S84))) := ⟨_, rfl⟩
 replace H : ((spec_StateOk.f k y439 ([] : List (S89))).bind fun t443 => (if t443 = true then (some (y439, ([] : List (S89)), true)) else (some (([] : List (S84)), ([] : List (S89)), false)))) = some (r1, r2, r3) := by first | (rw [hy439]; with_reducible exact H) | (have H2_ := (Option.bind_some _ _).symm.trans H; rw [hy439]; with_reducible exact H2_) | (have H2_ := (Option.bind_some _ _).symm.trans H; with_reducible exact H2_) | with_reducible exact H | (rw [hy439]; exact H) | exact H
 have Ny439 := zm hy439
 clear hy439
 replace H := Option.bind_eq_some_iff.mp H
 obtain ⟨t443, A30, H⟩ := H
 replace H : (if t443 = true then (some (y439, ([] : List (S89)), true)) else (some (([] : List (S84)), ([] : List (S89)), false))) = some (r1, r2, r3) := H
 have A3 := zm A30
 clear A30
 by_cases c4 : t443 = true
 ·subst c4
  have H1 : (some (y439, ([] : List (S89)), true)) = some (r1, r2, r3) := by rw [if_pos rfl] at H; exact H
  clear H
  have H := H1
  clear H1
  simp only [Option.some.injEq, Prod.mk.injEq] at H
  obtain ⟨rfl, rfl, rfl⟩ := H
  go_enter Try.func46, Try.ntmps46
  go_wp2_with (first | ((with_reducible refine gate_dst (N := 3) rfl ?_); refine zbox 3 #[.int .i64 a1_0, .int .i64 a1_1, .int .i64 a1_2, .int .i64 a1_3, .string a1_4] 25 ?_; intro gb437 hg w5 hbox hb; have BK437 := zm (hbox); have GW437 := zge w hg zB; have GE437 := zge w hg zB; replace HB := zm (below_step zB hb); clear hb hbox hg) | ((with_reducible refine gate_dst (N := 4) rfl ?_); refine zbox 4 #[.slice none 0 0, .slice none 0 0] 55 ?_; intro gb438 hg w6 hbox hb; have BK438 := zm (hbox); have GW438 := zge w hg zB; have GE438 := zge w hg zB; replace HB := zm (below_step zB hb); have NB437_438 := zlt hg (zb BK437); have NB438_437 := zgt hg (zb BK437); replace BK437 := zm (blk_below (zb BK437) hb); clear hb hbox hg; have hnb7 := NB437_438.out; have hnc7 := NB438_437.out; have hcz8_0 : w6.cell? ⟨gb437, 0, none⟩ = some (.int .i64 a1_0) := (blk_cell BK437.out 0).trans rfl; have hcz8_1 : w6.cell? ⟨gb437, 1, none⟩ = some (.int .i64 a1_1) := (blk_cell BK437.out 1).trans rfl; have hcz8_2 : w6.cell? ⟨gb437, 2, none⟩ = some (.int .i64 a1_2) := (blk_cell BK437.out 2).trans rfl; have hcz8_3 : w6.cell? ⟨gb437, 3, none⟩ = some (.int .i64 a1_3) := (blk_cell BK437.out 3).trans rfl; have hcz8_4 : w6.cell? ⟨gb437, 4, none⟩ = some (.string a1_4) := (blk_cell BK437.out 4).trans rfl; have hfz8_0 := blk_frozen BK437.out 0; have hfz8_1 := blk_frozen BK437.out 1; have hfz8_2 := blk_frozen BK437.out 2; have hfz8_3 := blk_frozen BK437.out 3; have hfz8_4 := blk_frozen BK437.out 4) | ((with_reducible refine gate_dst (N := 10) rfl ?_); refine Kd.R_lit k84 _ 84 ?hg (N := 10) ?hd (xs := ([(⟨a0, (⟨a1_0, a1_1, a1_2, a1_3, a1_4⟩ : S25)⟩ : S84)] : List (S84))) (inner := [.int .i64 a0, .int .i64 a1_0, .int .i64 a1_1, .int .i64 a1_2, .int .i64 a1_3, .string a1_4]) (ok := fun _ => True) (okp := fun _ => True) ?hr ?hp (fun _ hk => hk) trivial (Below.refl _ _) (Nat.le_refl _) (by simp) ?_; (case hd => rfl); (case hg => rfl); (case hr => first | (go_simp; done) | (go_simp; rfl)); (case hp => exact (Reps.c6 (show Kd.M k84 _ _ _ (⟨a0, (⟨a1_0, a1_1, a1_2, a1_3, a1_4⟩ : S25)⟩ : S84) [.int .i64 a0, .int .i64 a1_0, .int .i64 a1_1, .int .i64 a1_2, .int .i64 a1_3, .string a1_4] from (k84_mkM _ _ _ (⟨a0, (⟨a1_0, a1_1, a1_2, a1_3, a1_4⟩ : S25)⟩ : S84) )) (Reps.none _ _))); intro v440 w9 ho10 hb hg_ hnew_; clear hg_ hnew_; (first | rw [← Ny439.out] at ho10 | (simp only [Int.reduceToNat] at ho10; rw [← Ny439.out] at ho10)); have HO441 := zm (Kd.R_lower ho10 (below_size zB)); replace BK437 := zm (blk_below (zb BK437) hb); replace BK438 := zm (blk_below (zb BK438) hb); replace HB := zm (below_step zB hb); clear hb ho10; obtain ⟨Ao11, co11, eo11⟩ := Kd.R_slice HO441.out; subst eo11) | ((with_reducible refine gate_dst (N := 6) rfl ?_); refine zbox 6 #[.slice none 0 0, .slice none 0 0] 55 ?_; intro gb442 hg w12 hbox hb; replace HO441 := zm (Kd.R_below (zr HO441) hb); have BK442 := zm (hbox); have GW442 := zge w hg zB; have GE442 := zge w hg zB; replace HB := zm (below_step zB hb); have NB437_442 := zlt hg (zb BK437); have NB442_437 := zgt hg (zb BK437); replace BK437 := zm (blk_below (zb BK437) hb); have NB438_442 := zlt hg (zb BK438); have NB442_438 := zgt hg (zb BK438); replace BK438 := zm (blk_below (zb BK438) hb); clear hb hbox hg; have hnb13 := NB442_437.out; have hnc13 := NB437_442.out; have hnb14 := NB442_438.out; have hnc14 := NB438_442.out; have hcz15_0 : w12.cell? ⟨gb442, 0, none⟩ = some (.slice none 0 0) := (blk_cell BK442.out 0).trans rfl; have hcz15_1 : w12.cell? ⟨gb442, 1, none⟩ = some (.slice none 0 0) := (blk_cell BK442.out 1).trans rfl; have hfz15_0 := blk_frozen BK442.out 0; have hfz15_1 := blk_frozen BK442.out 1) | ((with_reducible refine gate_callee (f := 44) rfl ?_); refine zg (some 13) #[.agg #[.slice Ao11 y439.length co11, .slice none 0 0]] Try.func44 ?_; (refine (spec_StateOk.calls k _ _ y439 _ _ ([] : List (S89)) true _ ?side1 ?side2 ?side3 ?side4 A3.out).mono ?_); (case side1 => refine (Kd.R_reads' (e := 84) (base := w.heap.size) (ok := fun k_ => True) (n := y439.length) (c := co11) ?_).2.2; exact (zrs <| (Kd.R_mono (zfr (zfr (Kd.R_types HO441.out BK442.out (by decide)))) (fun _ h_ => h_.1)))); (case side2 => exact (Kd.R_reads' HO441.out).2.1); (case side3 => exact Kd.C_nil _ _); (case side4 => exact Nat.le_refl _); rintro e w16 ⟨rfl, hb⟩; refine ⟨_, rfl, ?_⟩; replace HO441 := zm (Kd.R_below (zrs <| (Kd.R_mono (zfr (zfr (Kd.R_types HO441.out BK442.out (by decide)))) (fun _ h_ => h_.1))) hb); replace BK437 := zm (blk_below (g := gb437) (o := .cells #[.int .i64 a1_0, .int .i64 a1_1, .int .i64 a1_2, .int .i64 a1_3, .string a1_4] 25 (0, 0)) (zfar (zfar (zb BK437) NB437_442) NB437_442) hb); replace BK438 := zm (blk_below (g := gb438) (o := .cells #[.slice none 0 0, .slice none 0 0] 55 (0, 0)) (zfar (zfar (zb BK438) NB438_442) NB438_442) hb); replace BK442 := zm (blk_below (g := gb442) (o := .cells #[.slice Ao11 y439.length co11, .slice none 0 0] 55 (0, 0)) (zput (zput (zb BK442) 0) 1) hb); replace HB := zm (below_step zB hb); clear hb; have hcz17_0 : w16.cell? ⟨gb442, 0, none⟩ = some (.slice Ao11 y439.length co11) := (blk_cell BK442.out 0).trans rfl; have hcz17_1 : w16.cell? ⟨gb442, 1, none⟩ = some (.slice none 0 0) := (blk_cell BK442.out 1).trans rfl; have hfz17_0 := blk_frozen BK442.out 0; have hfz17_1 := blk_frozen BK442.out 1; have hcz18_0 : w16.cell? ⟨gb438, 0, none⟩ = some (.slice none 0 0) := (blk_cell BK438.out 0).trans rfl; have hcz18_1 : w16.cell? ⟨gb438, 1, none⟩ = some (.slice none 0 0) := (blk_cell BK438.out 1).trans rfl; have hfz18_0 := blk_frozen BK438.out 0; have hfz18_1 := blk_frozen BK438.out 1))
  refine bodyPost_ret (results_ct rfl _ _ gb438 55 #[.slice Ao11 y439.length co11, .slice none 0 0] (0, 0) _ rfl (zput (zput (zb BK438) 0) 1) Try.underlying55 rfl (by kernel_rfl)) rfl ?_
  exact ⟨_, _, zE, zrs <| Kd.R_mono (zfr (zfr (Kd.R_types HO441.out BK438.out (by decide)))) (fun _ hk => trivial), by first | exact Kd.R_nil _ _ _ _ _ | exact Kd.N_nil _ _ _ _ _ | exact Kd.V_nil _ _ _ _ _ | exact Kd.Q_nil _ _ _ _ _ | exact Kd.S_nil _ _ _ _ _, zB⟩
 ·replace c4 := Bool.eq_false_iff.mpr c4
  subst c4
  have H1 : (some (([] : List (S84)), ([] : List (S89)), false)) = some (r1, r2, r3) := by rw [if_neg (show ¬ (false = true) by decide)] at H; exact H
  clear H
  have H := H1
  clear H1
  simp only [Option.some.injEq, Prod.mk.injEq] at H
  obtain ⟨rfl, rfl, rfl⟩ := H
  go_enter Try.func46, Try.ntmps46
  go_wp2_with (first | ((with_reducible refine gate_dst (N := 3) rfl ?_); refine zbox 3 #[.int .i64 a1_0, .int .i64 a1_1, .int .i64 a1_2, .int .i64 a1_3, .string a1_4] 25 ?_; intro gb437 hg w19 hbox hb; have BK437 := zm (hbox); have GW437 := zge w hg zB; have GE437 := zge w hg zB; replace HB := zm (below_step zB hb); clear hb hbox hg) | ((with_reducible refine gate_dst (N := 4) rfl ?_); refine zbox 4 #[.slice none 0 0, .slice none 0 0] 55 ?_; intro gb438 hg w20 hbox hb; have BK438 := zm (hbox); have GW438 := zge w hg zB; have GE438 := zge w hg zB; replace HB := zm (below_step zB hb); have NB437_438 := zlt hg (zb BK437); have NB438_437 := zgt hg (zb BK437); replace BK437 := zm (blk_below (zb BK437) hb); clear hb hbox hg; have hnb21 := NB437_438.out; have hnc21 := NB438_437.out; have hcz22_0 : w20.cell? ⟨gb437, 0, none⟩ = some (.int .i64 a1_0) := (blk_cell BK437.out 0).trans rfl; have hcz22_1 : w20.cell? ⟨gb437, 1, none⟩ = some (.int .i64 a1_1) := (blk_cell BK437.out 1).trans rfl; have hcz22_2 : w20.cell? ⟨gb437, 2, none⟩ = some (.int .i64 a1_2) := (blk_cell BK437.out 2).trans rfl; have hcz22_3 : w20.cell? ⟨gb437, 3, none⟩ = some (.int .i64 a1_3) := (blk_cell BK437.out 3).trans rfl; have hcz22_4 : w20.cell? ⟨gb437, 4, none⟩ = some (.string a1_4) := (blk_cell BK437.out 4).trans rfl; have hfz22_0 := blk_frozen BK437.out 0; have hfz22_1 := blk_frozen BK437.out 1; have hfz22_2 := blk_frozen BK437.out 2; have hfz22_3 := blk_frozen BK437.out 3; have hfz22_4 := blk_frozen BK437.out 4) | ((with_reducible refine gate_dst (N := 10) rfl ?_); refine Kd.R_lit k84 _ 84 ?hg (N := 10) ?hd (xs := ([(⟨a0, (⟨a1_0, a1_1, a1_2, a1_3, a1_4⟩ : S25)⟩ : S84)] : List (S84))) (inner := [.int .i64 a0, .int .i64 a1_0, .int .i64 a1_1, .int .i64 a1_2, .int .i64 a1_3, .string a1_4]) (ok := fun _ => True) (okp := fun _ => True) ?hr ?hp (fun _ hk => hk) trivial (Below.refl _ _) (Nat.le_refl _) (by simp) ?_; (case hd => rfl); (case hg => rfl); (case hr => first | (go_simp; done) | (go_simp; rfl)); (case hp => exact (Reps.c6 (show Kd.M k84 _ _ _ (⟨a0, (⟨a1_0, a1_1, a1_2, a1_3, a1_4⟩ : S25)⟩ : S84) [.int .i64 a0, .int .i64 a1_0, .int .i64 a1_1, .int .i64 a1_2, .int .i64 a1_3, .string a1_4] from (k84_mkM _ _ _ (⟨a0, (⟨a1_0, a1_1, a1_2, a1_3, a1_4⟩ : S25)⟩ : S84) )) (Reps.none _ _))); intro v440 w23 ho24 hb hg_ hnew_; clear hg_ hnew_; (first | rw [← Ny439.out] at ho24 | (simp only [Int.reduceToNat] at ho24; rw [← Ny439.out] at ho24)); have HO441 := zm (Kd.R_lower ho24 (below_size zB)); replace BK437 := zm (blk_below (zb BK437) hb); replace BK438 := zm (blk_below (zb BK438) hb); replace HB := zm (below_step zB hb); clear hb ho24; obtain ⟨Ao25, co25, eo25⟩ := Kd.R_slice HO441.out; subst eo25) | ((with_reducible refine gate_dst (N := 6) rfl ?_); refine zbox 6 #[.slice none 0 0, .slice none 0 0] 55 ?_; intro gb442 hg w26 hbox hb; replace HO441 := zm (Kd.R_below (zr HO441) hb); have BK442 := zm (hbox); have GW442 := zge w hg zB; have GE442 := zge w hg zB; replace HB := zm (below_step zB hb); have NB437_442 := zlt hg (zb BK437); have NB442_437 := zgt hg (zb BK437); replace BK437 := zm (blk_below (zb BK437) hb); have NB438_442 := zlt hg (zb BK438); have NB442_438 := zgt hg (zb BK438); replace BK438 := zm (blk_below (zb BK438) hb); clear hb hbox hg; have hnb27 := NB442_437.out; have hnc27 := NB437_442.out; have hnb28 := NB442_438.out; have hnc28 := NB438_442.out; have hcz29_0 : w26.cell? ⟨gb442, 0, none⟩ = some (.slice none 0 0) := (blk_cell BK442.out 0).trans rfl; have hcz29_1 : w26.cell? ⟨gb442, 1, none⟩ = some (.slice none 0 0) := (blk_cell BK442.out 1).trans rfl; have hfz29_0 := blk_frozen BK442.out 0; have hfz29_1 := blk_frozen BK442.out 1) | ((with_reducible refine gate_callee (f := 44) rfl ?_); refine zg (some 13) #[.agg #[.slice Ao25 y439.length co25, .slice none 0 0]] Try.func44 ?_; (refine (spec_StateOk.calls k _ _ y439 _ _ ([] : List (S89)) false _ ?side1 ?side2 ?side3 ?side4 A3.out).mono ?_); (case side1 => refine (Kd.R_reads' (e := 84) (base := w.heap.size) (ok := fun k_ => True) (n := y439.length) (c := co25) ?_).2.2; exact (zrs <| (Kd.R_mono (zfr (zfr (Kd.R_types HO441.out BK442.out (by decide)))) (fun _ h_ => h_.1)))); (case side2 => exact (Kd.R_reads' HO441.out).2.1); (case side3 => exact Kd.C_nil _ _); (case side4 => exact Nat.le_refl _); rintro e w30 ⟨rfl, hb⟩; refine ⟨_, rfl, ?_⟩; replace HO441 := zm (Kd.R_below (zrs <| (Kd.R_mono (zfr (zfr (Kd.R_types HO441.out BK442.out (by decide)))) (fun _ h_ => h_.1))) hb); replace BK437 := zm (blk_below (g := gb437) (o := .cells #[.int .i64 a1_0, .int .i64 a1_1, .int .i64 a1_2, .int .i64 a1_3, .string a1_4] 25 (0, 0)) (zfar (zfar (zb BK437) NB437_442) NB437_442) hb); replace BK438 := zm (blk_below (g := gb438) (o := .cells #[.slice none 0 0, .slice none 0 0] 55 (0, 0)) (zfar (zfar (zb BK438) NB438_442) NB438_442) hb); replace BK442 := zm (blk_below (g := gb442) (o := .cells #[.slice Ao25 y439.length co25, .slice none 0 0] 55 (0, 0)) (zput (zput (zb BK442) 0) 1) hb); replace HB := zm (below_step zB hb); clear hb; have hcz31_0 : w30.cell? ⟨gb438, 0, none⟩ = some (.slice none 0 0) := (blk_cell BK438.out 0).trans rfl; have hcz31_1 : w30.cell? ⟨gb438, 1, none⟩ = some (.slice none 0 0) := (blk_cell BK438.out 1).trans rfl; have hfz31_0 := blk_frozen BK438.out 0; have hfz31_1 := blk_frozen BK438.out 1))
  refine bodyPost_ret (results_ct rfl _ _ gb438 55 #[.slice none 0 0, .slice none 0 0] (0, 0) _ rfl (zput (zput (zb BK438) 0) 1) Try.underlying55 rfl (by kernel_rfl)) rfl ?_
  exact ⟨_, _, zE, by first | exact Kd.R_nil _ _ _ _ _ | exact Kd.N_nil _ _ _ _ _ | exact Kd.V_nil _ _ _ _ _ | exact Kd.Q_nil _ _ _ _ _ | exact Kd.S_nil _ _ _ _ _, by first | exact Kd.R_nil _ _ _ _ _ | exact Kd.N_nil _ _ _ _ _ | exact Kd.V_nil _ _ _ _ _ | exact Kd.Q_nil _ _ _ _ _ | exact Kd.S_nil _ _ _ _ _, zB⟩

/-! ### impl_Single: function 47 -/
def impl_Single.f (k : Nat) (a0 : Int) (a1_0 : Int) (a1_1 : Int) (a1_2 : Int) (a1_3 : Int) (a1_4 : ByteArray) : Option ((List (S84)) × (List (S89)) × Bool) := (some (([(⟨a0, (⟨a1_0, a1_1, a1_2, a1_3, a1_4⟩ : S25)⟩ : S84)] : List (S84)) : List (S84))).bind fun y446 => ((impl_StateOk.f k y446 ([] : List (S89))).bind fun t450 => (if t450 = true then (some (y446, ([] : List (S89)), true)) else (some (([] : List (S84)), ([] : List (S89)), false))))
theorem impl_Single.mono : ∀ a0 a1 a2 a3 a4 a5 k, LeO (impl_Single.f k a0 a1 a2 a3 a4 a5) (impl_Single.f (k + 1) a0 a1 a2 a3 a4 a5) := by
 intro a0 a1 a2 a3 a4 a5 k
 unfold impl_Single.f
 repeat' first
   | (with_reducible exact impl_StateOk.mono _ _ _)
   | (with_reducible exact LeO.refl _)
   | (with_reducible exact LeO.none _)
   | (with_reducible refine LeO.ite ?_ ?_)
   | (with_reducible refine LeO.bind ?_ (fun _ => ?_))
   | exact impl_StateOk.mono _ _ _
   | exact LeO.none _
   | refine LeO.ite ?_ ?_
   | refine LeO.bind ?_ (fun _ => ?_)
set_option maxHeartbeats 8000000 in
set_option maxRecDepth 100000 in
theorem impl_Single.calls (k : Nat) (a0 : Int) (a1_0 : Int) (a1_1 : Int) (a1_2 : Int) (a1_3 : Int) (a1_4 : ByteArray) (r1 : List (S84)) (r2 : List (S89)) (r3 : Bool) (w : World) (h : impl_Single.f k a0 a1_0 a1_1 a1_2 a1_3 a1_4 = some (r1, r2, r3)) :
  Calls Try.prog 47 #[.int .i64 a0, .agg #[.int .i64 a1_0, .int .i64 a1_1, .int .i64 a1_2, .int .i64 a1_3, .string a1_4]] w fun e w' => ∃ v0_ v1_ : Value, e = .returned (.tuple #[.agg #[v0_, v1_], .bool r3]) ∧ Kd.R k84 84 w' w.heap.size (fun _ => True) v0_ r1 ∧ Kd.R k89 89 w' w.heap.size (fun _ => True) v1_ r2 ∧ Below w.heap.size w w' := by
 have hu25 := Try.underlying25
 have hu55 := Try.underlying55
 have hu84 := Try.underlying84
 have HB := zm (Below.refl w.heap.size w)
 have H : ((some (([(⟨a0, (⟨a1_0, a1_1, a1_2, a1_3, a1_4⟩ : S25)⟩ : S84)] : List (S84)) : List (S84))).bind fun y446 => ((impl_StateOk.f k y446 ([] : List (S89))).bind fun t450 => (if t450 = true then (some (y446, ([] : List (S89)), true)) else (some (([] : List (S84)), ([] : List (S89)), false))))) = some (r1, r2, r3) := h
 clear h
 obtain ⟨y446, hy446⟩ : ∃ y_ : List (S84), y_ = (([(⟨a0, (⟨a1_0, a1_1, a1_2, a1_3, a1_4⟩ : S25)⟩ : S84)] : List (S84))) := ⟨_, rfl⟩
 replace H : ((impl_StateOk.f k y446 ([] : List (S89))).bind fun t450 => (if t450 = true then (some (y446, ([] : List (S89)), true)) else (some (([] : List (S84)), ([] : List (S89)), false)))) = some (r1, r2, r3) := by first | (rw [hy446]; with_reducible exact H) | (have H2_ := (Option.bind_some _ _).symm.trans H; rw [hy446]; with_reducible exact H2_) | (have H2_ := (Option.bind_some _ _).symm.trans H; with_reducible exact H2_) | with_reducible exact H | (rw [hy446]; exact H) | exact H
 have Ny446 := zm hy446
 clear hy446
 replace H := Option.bind_eq_some_iff.mp H
 obtain ⟨t450, A30, H⟩ := H
 replace H : (if t450 = true then (some (y446, ([] : List (S89)), true)) else (some (([] : List (S84)), ([] : List (S89)), false))) = some (r1, r2, r3) := H
 have A3 := zm A30
 clear A30
 by_cases c4 : t450 = true
 ·subst c4
  have H1 : (some (y446, ([] : List (S89)), true)) = some (r1, r2, r3) := by rw [if_pos rfl] at H; exact H
  clear H
  have H := H1
  clear H1
  simp only [Option.some.injEq, Prod.mk.injEq] at H
  obtain ⟨rfl, rfl, rfl⟩ := H
  go_enter Try.func47, Try.ntmps47
  go_wp2_with (first | ((with_reducible refine gate_dst (N := 3) rfl ?_); refine zbox 3 #[.int .i64 a1_0, .int .i64 a1_1, .int .i64 a1_2, .int .i64 a1_3, .string a1_4] 25 ?_; intro gb444 hg w5 hbox hb; have BK444 := zm (hbox); have GW444 := zge w hg zB; have GE444 := zge w hg zB; replace HB := zm (below_step zB hb); clear hb hbox hg) | ((with_reducible refine gate_dst (N := 4) rfl ?_); refine zbox 4 #[.slice none 0 0, .slice none 0 0] 55 ?_; intro gb445 hg w6 hbox hb; have BK445 := zm (hbox); have GW445 := zge w hg zB; have GE445 := zge w hg zB; replace HB := zm (below_step zB hb); have NB444_445 := zlt hg (zb BK444); have NB445_444 := zgt hg (zb BK444); replace BK444 := zm (blk_below (zb BK444) hb); clear hb hbox hg; have hnb7 := NB444_445.out; have hnc7 := NB445_444.out; have hcz8_0 : w6.cell? ⟨gb444, 0, none⟩ = some (.int .i64 a1_0) := (blk_cell BK444.out 0).trans rfl; have hcz8_1 : w6.cell? ⟨gb444, 1, none⟩ = some (.int .i64 a1_1) := (blk_cell BK444.out 1).trans rfl; have hcz8_2 : w6.cell? ⟨gb444, 2, none⟩ = some (.int .i64 a1_2) := (blk_cell BK444.out 2).trans rfl; have hcz8_3 : w6.cell? ⟨gb444, 3, none⟩ = some (.int .i64 a1_3) := (blk_cell BK444.out 3).trans rfl; have hcz8_4 : w6.cell? ⟨gb444, 4, none⟩ = some (.string a1_4) := (blk_cell BK444.out 4).trans rfl; have hfz8_0 := blk_frozen BK444.out 0; have hfz8_1 := blk_frozen BK444.out 1; have hfz8_2 := blk_frozen BK444.out 2; have hfz8_3 := blk_frozen BK444.out 3; have hfz8_4 := blk_frozen BK444.out 4) | ((with_reducible refine gate_dst (N := 10) rfl ?_); refine Kd.R_lit k84 _ 84 ?hg (N := 10) ?hd (xs := ([(⟨a0, (⟨a1_0, a1_1, a1_2, a1_3, a1_4⟩ : S25)⟩ : S84)] : List (S84))) (inner := [.int .i64 a0, .int .i64 a1_0, .int .i64 a1_1, .int .i64 a1_2, .int .i64 a1_3, .string a1_4]) (ok := fun _ => True) (okp := fun _ => True) ?hr ?hp (fun _ hk => hk) trivial (Below.refl _ _) (Nat.le_refl _) (by simp) ?_; (case hd => rfl); (case hg => rfl); (case hr => first | (go_simp; done) | (go_simp; rfl)); (case hp => exact (Reps.c6 (show Kd.M k84 _ _ _ (⟨a0, (⟨a1_0, a1_1, a1_2, a1_3, a1_4⟩ : S25)⟩ : S84) [.int .i64 a0, .int .i64 a1_0, .int .i64 a1_1, .int .i64 a1_2, .int .i64 a1_3, .string a1_4] from (k84_mkM _ _ _ (⟨a0, (⟨a1_0, a1_1, a1_2, a1_3, a1_4⟩ : S25)⟩ : S84) )) (Reps.none _ _))); intro v447 w9 ho10 hb hg_ hnew_; clear hg_ hnew_; (first | rw [← Ny446.out] at ho10 | (simp only [Int.reduceToNat] at ho10; rw [← Ny446.out] at ho10)); have HO448 := zm (Kd.R_lower ho10 (below_size zB)); replace BK444 := zm (blk_below (zb BK444) hb); replace BK445 := zm (blk_below (zb BK445) hb); replace HB := zm (below_step zB hb); clear hb ho10; obtain ⟨Ao11, co11, eo11⟩ := Kd.R_slice HO448.out; subst eo11) | ((with_reducible refine gate_dst (N := 6) rfl ?_); refine zbox 6 #[.slice none 0 0, .slice none 0 0] 55 ?_; intro gb449 hg w12 hbox hb; replace HO448 := zm (Kd.R_below (zr HO448) hb); have BK449 := zm (hbox); have GW449 := zge w hg zB; have GE449 := zge w hg zB; replace HB := zm (below_step zB hb); have NB444_449 := zlt hg (zb BK444); have NB449_444 := zgt hg (zb BK444); replace BK444 := zm (blk_below (zb BK444) hb); have NB445_449 := zlt hg (zb BK445); have NB449_445 := zgt hg (zb BK445); replace BK445 := zm (blk_below (zb BK445) hb); clear hb hbox hg; have hnb13 := NB449_444.out; have hnc13 := NB444_449.out; have hnb14 := NB449_445.out; have hnc14 := NB445_449.out; have hcz15_0 : w12.cell? ⟨gb449, 0, none⟩ = some (.slice none 0 0) := (blk_cell BK449.out 0).trans rfl; have hcz15_1 : w12.cell? ⟨gb449, 1, none⟩ = some (.slice none 0 0) := (blk_cell BK449.out 1).trans rfl; have hfz15_0 := blk_frozen BK449.out 0; have hfz15_1 := blk_frozen BK449.out 1) | ((with_reducible refine gate_callee (f := 45) rfl ?_); refine zg (some 13) #[.agg #[.slice Ao11 y446.length co11, .slice none 0 0]] Try.func45 ?_; (refine (impl_StateOk.calls k _ _ y446 _ _ ([] : List (S89)) true _ ?side1 ?side2 ?side3 ?side4 A3.out).mono ?_); (case side1 => refine (Kd.R_reads' (e := 84) (base := w.heap.size) (ok := fun k_ => True) (n := y446.length) (c := co11) ?_).2.2; exact (zrs <| (Kd.R_mono (zfr (zfr (Kd.R_types HO448.out BK449.out (by decide)))) (fun _ h_ => h_.1)))); (case side2 => exact (Kd.R_reads' HO448.out).2.1); (case side3 => exact Kd.C_nil _ _); (case side4 => exact Nat.le_refl _); rintro e w16 ⟨rfl, hb⟩; refine ⟨_, rfl, ?_⟩; replace HO448 := zm (Kd.R_below (zrs <| (Kd.R_mono (zfr (zfr (Kd.R_types HO448.out BK449.out (by decide)))) (fun _ h_ => h_.1))) hb); replace BK444 := zm (blk_below (g := gb444) (o := .cells #[.int .i64 a1_0, .int .i64 a1_1, .int .i64 a1_2, .int .i64 a1_3, .string a1_4] 25 (0, 0)) (zfar (zfar (zb BK444) NB444_449) NB444_449) hb); replace BK445 := zm (blk_below (g := gb445) (o := .cells #[.slice none 0 0, .slice none 0 0] 55 (0, 0)) (zfar (zfar (zb BK445) NB445_449) NB445_449) hb); replace BK449 := zm (blk_below (g := gb449) (o := .cells #[.slice Ao11 y446.length co11, .slice none 0 0] 55 (0, 0)) (zput (zput (zb BK449) 0) 1) hb); replace HB := zm (below_step zB hb); clear hb; have hcz17_0 : w16.cell? ⟨gb449, 0, none⟩ = some (.slice Ao11 y446.length co11) := (blk_cell BK449.out 0).trans rfl; have hcz17_1 : w16.cell? ⟨gb449, 1, none⟩ = some (.slice none 0 0) := (blk_cell BK449.out 1).trans rfl; have hfz17_0 := blk_frozen BK449.out 0; have hfz17_1 := blk_frozen BK449.out 1; have hcz18_0 : w16.cell? ⟨gb445, 0, none⟩ = some (.slice none 0 0) := (blk_cell BK445.out 0).trans rfl; have hcz18_1 : w16.cell? ⟨gb445, 1, none⟩ = some (.slice none 0 0) := (blk_cell BK445.out 1).trans rfl; have hfz18_0 := blk_frozen BK445.out 0; have hfz18_1 := blk_frozen BK445.out 1))
  refine bodyPost_ret (results_ct rfl _ _ gb445 55 #[.slice Ao11 y446.length co11, .slice none 0 0] (0, 0) _ rfl (zput (zput (zb BK445) 0) 1) Try.underlying55 rfl (by kernel_rfl)) rfl ?_
  exact ⟨_, _, zE, zrs <| Kd.R_mono (zfr (zfr (Kd.R_types HO448.out BK445.out (by decide)))) (fun _ hk => trivial), by first | exact Kd.R_nil _ _ _ _ _ | exact Kd.N_nil _ _ _ _ _ | exact Kd.V_nil _ _ _ _ _ | exact Kd.Q_nil _ _ _ _ _ | exact Kd.S_nil _ _ _ _ _, zB⟩
 ·replace c4 := Bool.eq_false_iff.mpr c4
  subst c4
  have H1 : (some (([] : List (S84)), ([] : List (S89)), false)) = some (r1, r2, r3) := by rw [if_neg (show ¬ (false = true) by decide)] at H; exact H
  clear H
  have H := H1
  clear H1
  simp only [Option.some.injEq, Prod.mk.injEq] at H
  obtain ⟨rfl, rfl, rfl⟩ := H
  go_enter Try.func47, Try.ntmps47
  go_wp2_with (first | ((with_reducible refine gate_dst (N := 3) rfl ?_); refine zbox 3 #[.int .i64 a1_0, .int .i64 a1_1, .int .i64 a1_2, .int .i64 a1_3, .string a1_4] 25 ?_; intro gb444 hg w19 hbox hb; have BK444 := zm (hbox); have GW444 := zge w hg zB; have GE444 := zge w hg zB; replace HB := zm (below_step zB hb); clear hb hbox hg) | ((with_reducible refine gate_dst (N := 4) rfl ?_); refine zbox 4 #[.slice none 0 0, .slice none 0 0] 55 ?_; intro gb445 hg w20 hbox hb; have BK445 := zm (hbox); have GW445 := zge w hg zB; have GE445 := zge w hg zB; replace HB := zm (below_step zB hb); have NB444_445 := zlt hg (zb BK444); have NB445_444 := zgt hg (zb BK444); replace BK444 := zm (blk_below (zb BK444) hb); clear hb hbox hg; have hnb21 := NB444_445.out; have hnc21 := NB445_444.out; have hcz22_0 : w20.cell? ⟨gb444, 0, none⟩ = some (.int .i64 a1_0) := (blk_cell BK444.out 0).trans rfl; have hcz22_1 : w20.cell? ⟨gb444, 1, none⟩ = some (.int .i64 a1_1) := (blk_cell BK444.out 1).trans rfl; have hcz22_2 : w20.cell? ⟨gb444, 2, none⟩ = some (.int .i64 a1_2) := (blk_cell BK444.out 2).trans rfl; have hcz22_3 : w20.cell? ⟨gb444, 3, none⟩ = some (.int .i64 a1_3) := (blk_cell BK444.out 3).trans rfl; have hcz22_4 : w20.cell? ⟨gb444, 4, none⟩ = some (.string a1_4) := (blk_cell BK444.out 4).trans rfl; have hfz22_0 := blk_frozen BK444.out 0; have hfz22_1 := blk_frozen BK444.out 1; have hfz22_2 := blk_frozen BK444.out 2; have hfz22_3 := blk_frozen BK444.out 3; have hfz22_4 := blk_frozen BK444.out 4) | ((with_reducible refine gate_dst (N := 10) rfl ?_); refine Kd.R_lit k84 _ 84 ?hg (N := 10) ?hd (xs := ([(⟨a0, (⟨a1_0, a1_1, a1_2, a1_3, a1_4⟩ : S25)⟩ : S84)] : List (S84))) (inner := [.int .i64 a0, .int .i64 a1_0, .int .i64 a1_1, .int .i64 a1_2, .int .i64 a1_3, .string a1_4]) (ok := fun _ => True) (okp := fun _ => True) ?hr ?hp (fun _ hk => hk) trivial (Below.refl _ _) (Nat.le_refl _) (by simp) ?_; (case hd => rfl); (case hg => rfl); (case hr => first | (go_simp; done) | (go_simp; rfl)); (case hp => exact (Reps.c6 (show Kd.M k84 _ _ _ (⟨a0, (⟨a1_0, a1_1, a1_2, a1_3, a1_4⟩ : S25)⟩ : S84) [.int .i64 a0, .int .i64 a1_0, .int .i64 a1_1, .int .i64 a1_2, .int .i64 a1_3, .string a1_4] from (k84_mkM _ _ _ (⟨a0, (⟨a1_0, a1_1, a1_2, a1_3, a1_4⟩ : S25)⟩ : S84) )) (Reps.none _ _))); intro v447 w23 ho24 hb hg_ hnew_; clear hg_ hnew_; (first | rw [← Ny446.out] at ho24 | (simp only [Int.reduceToNat] at ho24; rw [← Ny446.out] at ho24)); have HO448 := zm (Kd.R_lower ho24 (below_size zB)); replace BK444 := zm (blk_below (zb BK444) hb); replace BK445 := zm (blk_below (zb BK445) hb); replace HB := zm (below_step zB hb); clear hb ho24; obtain ⟨Ao25, co25, eo25⟩ := Kd.R_slice HO448.out; subst eo25) | ((with_reducible refine gate_dst (N := 6) rfl ?_); refine zbox 6 #[.slice none 0 0, .slice none 0 0] 55 ?_; intro gb449 hg w26 hbox hb; replace HO448 := zm (Kd.R_below (zr HO448) hb); have BK449 := zm (hbox); have GW449 := zge w hg zB; have GE449 := zge w hg zB; replace HB := zm (below_step zB hb); have NB444_449 := zlt hg (zb BK444); have NB449_444 := zgt hg (zb BK444); replace BK444 := zm (blk_below (zb BK444) hb); have NB445_449 := zlt hg (zb BK445); have NB449_445 := zgt hg (zb BK445); replace BK445 := zm (blk_below (zb BK445) hb); clear hb hbox hg; have hnb27 := NB449_444.out; have hnc27 := NB444_449.out; have hnb28 := NB449_445.out; have hnc28 := NB445_449.out; have hcz29_0 : w26.cell? ⟨gb449, 0, none⟩ = some (.slice none 0 0) := (blk_cell BK449.out 0).trans rfl; have hcz29_1 : w26.cell? ⟨gb449, 1, none⟩ = some (.slice none 0 0) := (blk_cell BK449.out 1).trans rfl; have hfz29_0 := blk_frozen BK449.out 0; have hfz29_1 := blk_frozen BK449.out 1) | ((with_reducible refine gate_callee (f := 45) rfl ?_); refine zg (some 13) #[.agg #[.slice Ao25 y446.length co25, .slice none 0 0]] Try.func45 ?_; (refine (impl_StateOk.calls k _ _ y446 _ _ ([] : List (S89)) false _ ?side1 ?side2 ?side3 ?side4 A3.out).mono ?_); (case side1 => refine (Kd.R_reads' (e := 84) (base := w.heap.size) (ok := fun k_ => True) (n := y446.length) (c := co25) ?_).2.2; exact (zrs <| (Kd.R_mono (zfr (zfr (Kd.R_types HO448.out BK449.out (by decide)))) (fun _ h_ => h_.1)))); (case side2 => exact (Kd.R_reads' HO448.out).2.1); (case side3 => exact Kd.C_nil _ _); (case side4 => exact Nat.le_refl _); rintro e w30 ⟨rfl, hb⟩; refine ⟨_, rfl, ?_⟩; replace HO448 := zm (Kd.R_below (zrs <| (Kd.R_mono (zfr (zfr (Kd.R_types HO448.out BK449.out (by decide)))) (fun _ h_ => h_.1))) hb); replace BK444 := zm (blk_below (g := gb444) (o := .cells #[.int .i64 a1_0, .int .i64 a1_1, .int .i64 a1_2, .int .i64 a1_3, .string a1_4] 25 (0, 0)) (zfar (zfar (zb BK444) NB444_449) NB444_449) hb); replace BK445 := zm (blk_below (g := gb445) (o := .cells #[.slice none 0 0, .slice none 0 0] 55 (0, 0)) (zfar (zfar (zb BK445) NB445_449) NB445_449) hb); replace BK449 := zm (blk_below (g := gb449) (o := .cells #[.slice Ao25 y446.length co25, .slice none 0 0] 55 (0, 0)) (zput (zput (zb BK449) 0) 1) hb); replace HB := zm (below_step zB hb); clear hb; have hcz31_0 : w30.cell? ⟨gb445, 0, none⟩ = some (.slice none 0 0) := (blk_cell BK445.out 0).trans rfl; have hcz31_1 : w30.cell? ⟨gb445, 1, none⟩ = some (.slice none 0 0) := (blk_cell BK445.out 1).trans rfl; have hfz31_0 := blk_frozen BK445.out 0; have hfz31_1 := blk_frozen BK445.out 1))
  refine bodyPost_ret (results_ct rfl _ _ gb445 55 #[.slice none 0 0, .slice none 0 0] (0, 0) _ rfl (zput (zput (zb BK445) 0) 1) Try.underlying55 rfl (by kernel_rfl)) rfl ?_
  exact ⟨_, _, zE, by first | exact Kd.R_nil _ _ _ _ _ | exact Kd.N_nil _ _ _ _ _ | exact Kd.V_nil _ _ _ _ _ | exact Kd.Q_nil _ _ _ _ _ | exact Kd.S_nil _ _ _ _ _, by first | exact Kd.R_nil _ _ _ _ _ | exact Kd.N_nil _ _ _ _ _ | exact Kd.V_nil _ _ _ _ _ | exact Kd.Q_nil _ _ _ _ _ | exact Kd.S_nil _ _ _ _ _, zB⟩

/-! ### laws_markText: function 87 -/
def laws_markText.l0 : Nat → Int → ByteArray → Option (ByteArray)
 | 0, _, _ => none
 | k + 1, x0, x3 => if x0 > 0 then ((some (([(wrap64 (48 + (Int.tmod x0 10))) % 256] : List Int) : List Int)).bind fun y451 => (if (strOfNums y451).size + x3.size ≤ 9223372036854775807 then (laws_markText.l0 k (wrap64 (Int.tdiv x0 10)) ((strOfNums y451) ++ x3)) else (none))) else (if 1 + x3.size ≤ 9223372036854775807 then (some ((⟨#[109]⟩ : ByteArray) ++ x3)) else (none))
def laws_markText.f (k : Nat) (a0 : Int) : Option (ByteArray) := if a0 ≤ 0 then (some (⟨#[109, 48]⟩ : ByteArray)) else (laws_markText.l0 k a0 (⟨#[]⟩ : ByteArray))
theorem laws_markText.mono_l : ∀ k, (∀ y0 y1, LeO (laws_markText.l0 k y0 y1) (laws_markText.l0 (k + 1) y0 y1))
 | 0 => fun _ _ r h => by simp [laws_markText.l0] at h
 | k + 1 => by
  have ih0 := laws_markText.mono_l k
  ·intro y0 y1
   unfold laws_markText.l0
   repeat' first
   | (with_reducible exact ih0 _ _)
   | (with_reducible exact LeO.refl _)
   | (with_reducible exact LeO.none _)
   | (with_reducible refine LeO.ite ?_ ?_)
   | (with_reducible refine LeO.bind ?_ (fun _ => ?_))
   | exact ih0 _ _
   | exact LeO.none _
   | refine LeO.ite ?_ ?_
   | refine LeO.bind ?_ (fun _ => ?_)
theorem laws_markText.mono : ∀ a0 k, LeO (laws_markText.f k a0) (laws_markText.f (k + 1) a0) := by
 intro a0 k
 have ih0 := laws_markText.mono_l k
 unfold laws_markText.f
 repeat' first
   | (with_reducible exact ih0 _ _)
   | (with_reducible exact LeO.refl _)
   | (with_reducible exact LeO.none _)
   | (with_reducible refine LeO.ite ?_ ?_)
   | (with_reducible refine LeO.bind ?_ (fun _ => ?_))
   | exact ih0 _ _
   | exact LeO.none _
   | refine LeO.ite ?_ ?_
   | refine LeO.bind ?_ (fun _ => ?_)
set_option maxHeartbeats 8000000 in
set_option maxRecDepth 100000 in
theorem laws_markText.calls (k : Nat) (a0 : Int) (r : ByteArray) (w : World) (h : laws_markText.f k a0 = some r) :
  Calls Try.prog 87 #[.int .i64 a0] w fun e w' => e = .returned (.string r) ∧ Below w.heap.size w w' := by
 have HB := zm (Below.refl w.heap.size w)
 have H : (if a0 ≤ 0 then (some (⟨#[109, 48]⟩ : ByteArray)) else (laws_markText.l0 k a0 (⟨#[]⟩ : ByteArray))) = some r := h
 clear h
 by_cases c2 : a0 ≤ 0
 ·rw [if_pos c2] at H
  have c2b0 : decide (a0 ≤ 0) = true := decide_eq_true c2
  clear c2
  obtain rfl := Option.some.inj H
  go_enter Try.func87, Try.ntmps87
  go_wp2
  go_ret
  exact ⟨zE, zB⟩
 ·rw [if_neg c2] at H
  have c2b0 : decide (a0 ≤ 0) = false := decide_eq_false c2
  clear c2
  have H' := zm H
  clear H
  go_enter Try.func87, Try.ntmps87
  go_wp2
  go_loopg [0, 3] k (fun kq v0 v3 w' => ∃ (x0_1 : Int) (x3_1 : ByteArray), v0 = .int .i64 x0_1 ∧ v3 = .string x3_1 ∧ Aside0 (laws_markText.l0 kq x0_1 x3_1 = some r) ∧ Aside0 (kq ≤ k) ∧ Aside0 (Below w.heap.size w w'))
  case atStart => exact ⟨(a0), ((⟨#[]⟩ : ByteArray)), zF, zF, H', ⟨Nat.le_refl _⟩, ⟨zB⟩⟩
  case round =>
   clear H'
   try clear c2
   try clear c2b0
   try clear p2
   obtain ⟨x0_1, x3_1, rfl, rfl, HA, HK1, HB⟩ := hrel
   cases gk with
   | zero => exact absurd HA.out (by simp [laws_markText.l0])
   | succ k1 =>
    have H := HA.out
    clear HA
    simp only [laws_markText.l0] at H
    by_cases c3 : x0_1 > 0
    ·rw [if_pos c3] at H
     have c3b0 : decide (0 < x0_1) = true := decide_eq_true c3
     clear c3
     obtain ⟨y451, hy451⟩ : ∃ y_ : List Int, y_ = (([(wrap64 (48 + (Int.tmod x0_1 10))) % 256] : List Int)) := ⟨_, rfl⟩
     replace H : (if (strOfNums y451).size + x3_1.size ≤ 9223372036854775807 then (laws_markText.l0 k1 (wrap64 (Int.tdiv x0_1 10)) ((strOfNums y451) ++ x3_1)) else (none)) = some r := by first | (rw [hy451]; with_reducible exact H) | (have H2_ := (Option.bind_some _ _).symm.trans H; rw [hy451]; with_reducible exact H2_) | (have H2_ := (Option.bind_some _ _).symm.trans H; with_reducible exact H2_) | with_reducible exact H | (rw [hy451]; exact H) | exact H
     have Ny451 := zm hy451
     clear hy451
     by_cases c4 : (strOfNums y451).size + x3_1.size ≤ 9223372036854775807
     ·rw [if_pos c4] at H
      have c4b0 := eq_true c4
      have c4b1 : decide ((strOfNums y451).size + x3_1.size ≤ 9223372036854775807) = true := decide_eq_true c4
      try have c4b2 : (9223372036854775807 < (strOfNums y451).size + x3_1.size) = False := eq_false (Nat.not_lt.2 c4)
      have H' := zm H
      clear H
      go_wp2_with (first | ((with_reducible refine gate_dst (N := 12) rfl ?_); refine Kd.R_lit (Kd.int .u8) _ 5 ?hg (N := 12) ?hd (xs := ([(wrap64 (48 + (Int.tmod x0_1 10))) % 256] : List Int)) (inner := [.int .u8 ((wrap64 (48 + (Int.tmod x0_1 10))) % 256)]) (ok := fun _ => True) (okp := fun _ => True) ?hr ?hp (fun _ hk => hk) trivial (Below.refl _ _) (Nat.le_refl _) (by simp) ?_; (case hd => rfl); (case hg => rfl); (case hr => first | (go_simp; done) | (go_simp; rfl)); (case hp => exact (Reps.one (show Kd.M (Kd.int .u8) _ _ _ ((wrap64 (48 + (Int.tmod x0_1 10))) % 256) [.int .u8 ((wrap64 (48 + (Int.tmod x0_1 10))) % 256)] from rfl) (Reps.none _ _))); intro v452 w5 ho6 hb hg_ hnew_; clear hg_ hnew_; (first | rw [← Ny451.out] at ho6 | (simp only [Int.reduceToNat] at ho6; rw [← Ny451.out] at ho6)); have HO453 := zm (Kd.R_lower ho6 (below_size zB)); replace HB := zm (below_step zB hb); clear hb ho6; have hcv7 := own_string (P := Try.prog) Try.underlying30 Try.underlying5 Try.underlying9 (Kd.own_of_R HO453.out)))
      go_roundg k1
      case measure => have := HK1.out; omega
      case rel => exact ⟨(wrap64 (Int.tdiv x0_1 10)), ((strOfNums y451) ++ x3_1), zF, zF, H', ⟨by have := HK1.out; omega⟩, ⟨zB⟩⟩
     ·rw [if_neg c4] at H
      exact absurd H (by simp)
    ·rw [if_neg c3] at H
     have c3b0 : decide (0 < x0_1) = false := decide_eq_false c3
     clear c3
     by_cases c8 : 1 + x3_1.size ≤ 9223372036854775807
     ·rw [if_pos c8] at H
      have c8b0 := eq_true c8
      have c8b1 : decide (1 + x3_1.size ≤ 9223372036854775807) = true := decide_eq_true c8
      try have c8b2 : (9223372036854775807 < 1 + x3_1.size) = False := eq_false (Nat.not_lt.2 c8)
      obtain rfl := Option.some.inj H
      go_wp2
      go_ret
      exact ⟨zE, zB⟩
     ·rw [if_neg c8] at H
      exact absurd H (by simp)

end Go.Proofs.Ythljdiniccpobaa.P
