-- by a program of this session, for this seat
import Derived.Test.YtgapdegniepjiaaZ
import Derived.Test.YtgapdegniepjiaaP0
import Derived.Test.YtgapdegniepjiaaPal
import Derived.Test.YtgapdegniepjiaaPam
import Derived.Test.YtgapdegniepjiaaPaa
import Derived.Test.YtgapdegniepjiaaPab
import Derived.Test.YtgapdegniepjiaaPak
namespace Go.Proofs.Ytgapdegniepjiaa.P
open Go.RowKit Go.Proofs.YtgapdegniepjiaaW.PrintWords Go.Proofs.YtgapdegniepjiaaW.PrintLast Go.Proofs.YtgapdegniepjiaaW.PrintMore Go.Proofs.Ytgapdegniepjiaa.Z
attribute [local go_sem] max2_int min2_int max_two min_two max_three min_three max_four min_four   -- for this text's walks alone
set_option linter.unusedVariables false
set_option linter.unusedSimpArgs false

/-! ### impl_SaySet: function 30 -/
def impl_SaySet.f (k : Nat) (l0_0 : List (S68)) (l0_1 : List (S72)) (a1 : Int) (a2 : ByteArray) : Option ((List (S68)) × (List (S72)) × Int) := (impl_present.f k l0_0 l0_1 a1).bind fun bt712 => (if bt712.2.2.2.2.2 = 0 then (if bt712.2.2.2.1 = 1000 then (some (([] : List (S68)), ([] : List (S72)), 4)) else (if (a2.size : Int) > 8 then (some (([] : List (S68)), ([] : List (S72)), 4)) else ((impl_saying.f a1 bt712.1 bt712.2.1 bt712.2.2.1 (wrap64 (bt712.2.2.2.1 + 1)) a2).bind fun bt719 => (some (bt719.1, bt719.2.1, bt719.2.2))))) else (some (([] : List (S68)), ([] : List (S72)), bt712.2.2.2.2.2)))
theorem impl_SaySet.mono : ∀ a0 a1 a2 a3 k, LeO (impl_SaySet.f k a0 a1 a2 a3) (impl_SaySet.f (k + 1) a0 a1 a2 a3) := by
 intro a0 a1 a2 a3 k
 unfold impl_SaySet.f
 repeat' first
   | (with_reducible exact impl_present.mono _ _ _ _)
   | (with_reducible exact LeO.refl _)
   | (with_reducible exact LeO.none _)
   | (with_reducible refine LeO.ite ?_ ?_)
   | (with_reducible refine LeO.bind ?_ (fun _ => ?_))
   | exact impl_present.mono _ _ _ _
   | exact LeO.none _
   | refine LeO.ite ?_ ?_
   | refine LeO.bind ?_ (fun _ => ?_)
set_option maxHeartbeats 8000000 in
set_option maxRecDepth 100000 in
theorem impl_SaySet.calls (k : Nat) (A0_0 : Option Addr) (c0_0 : Nat) (l0_0 : List (S68)) (A0_1 : Option Addr) (c0_1 : Nat) (l0_1 : List (S72)) (a1 : Int) (a2 : ByteArray) (r1 : List (S68)) (r2 : List (S72)) (r3 : Int) (w : World) (hr0_0 : Kd.C k68 w A0_0 l0_0.length l0_0) (hc0_0 : l0_0.length ≤ c0_0) (hr0_1 : Kd.C k72 w A0_1 l0_1.length l0_1) (hc0_1 : l0_1.length ≤ c0_1) (h : impl_SaySet.f k l0_0 l0_1 a1 a2 = some (r1, r2, r3)) :
  Calls Try.prog 30 #[.agg #[.slice A0_0 l0_0.length c0_0, .slice A0_1 l0_1.length c0_1], .int .i64 a1, .string a2] w fun e w' => ∃ v0_ v1_ : Value, e = .returned (.tuple #[.agg #[v0_, v1_], .int .i64 r3]) ∧ Kd.R k68 68 w' w.heap.size (fun _ => True) v0_ r1 ∧ Kd.R k72 72 w' w.heap.size (fun _ => True) v1_ r2 ∧ Below w.heap.size w w' := by
 have hu32 := Try.underlying32
 have hu66 := Try.underlying66
 have HR0_0 := zm hr0_0
 have HC0_0 := zm hc0_0
 clear hr0_0 hc0_0
 have HR0_1 := zm hr0_1
 have HC0_1 := zm hc0_1
 clear hr0_1 hc0_1
 have HB := zm (Below.refl w.heap.size w)
 have H : ((impl_present.f k l0_0 l0_1 a1).bind fun bt712 => (if bt712.2.2.2.2.2 = 0 then (if bt712.2.2.2.1 = 1000 then (some (([] : List (S68)), ([] : List (S72)), 4)) else (if (a2.size : Int) > 8 then (some (([] : List (S68)), ([] : List (S72)), 4)) else ((impl_saying.f a1 bt712.1 bt712.2.1 bt712.2.2.1 (wrap64 (bt712.2.2.2.1 + 1)) a2).bind fun bt719 => (some (bt719.1, bt719.2.1, bt719.2.2))))) else (some (([] : List (S68)), ([] : List (S72)), bt712.2.2.2.2.2)))) = some (r1, r2, r3) := h
 clear h
 replace H := Option.bind_eq_some_iff.mp H
 obtain ⟨⟨t712, t713, t714, t715, t716, t717⟩, A40, H⟩ := H
 replace H : (if t717 = 0 then (if t715 = 1000 then (some (([] : List (S68)), ([] : List (S72)), 4)) else (if (a2.size : Int) > 8 then (some (([] : List (S68)), ([] : List (S72)), 4)) else ((impl_saying.f a1 t712 t713 t714 (wrap64 (t715 + 1)) a2).bind fun bt719 => (some (bt719.1, bt719.2.1, bt719.2.2))))) else (some (([] : List (S68)), ([] : List (S72)), t717))) = some (r1, r2, r3) := H
 have A4 := zm A40
 clear A40
 by_cases c5 : t717 = 0
 ·rw [if_pos c5] at H
  have c5b0 : (t717 == 0) = true := beq_iff_eq.mpr c5
  have c5b1 : (t717 != 0) = false := bne_eq_false_iff_eq.mpr c5
  clear c5
  by_cases c6 : t715 = 1000
  ·rw [if_pos c6] at H
   have c6b0 : (t715 == 1000) = true := beq_iff_eq.mpr c6
   have c6b1 : (t715 != 1000) = false := bne_eq_false_iff_eq.mpr c6
   clear c6
   simp only [Option.some.injEq, Prod.mk.injEq] at H
   obtain ⟨rfl, rfl, rfl⟩ := H
   go_enter Try.func30, Try.ntmps30
   go_wp2_with (first | ((with_reducible refine gate_dst (N := 3) rfl ?_); (try (refine gate_guard (by rfl) ?_; dsimp only)); refine zbox 3 #[.slice A0_0 l0_0.length c0_0, .slice A0_1 l0_1.length c0_1] 32 ?_; intro gb710 hg w7 hbox hb; have BK710 := zm (hbox); have GW710 := zge w hg zB; have GE710 := zge w hg zB; replace HB := zm (below_step zB hb); clear hb hbox hg) | ((with_reducible refine gate_dst (N := 6) rfl ?_); (try (refine gate_guard (by rfl) ?_; dsimp only)); refine zbox 6 #[.slice none 0 0, .slice none 0 0] 32 ?_; intro gb711 hg w8 hbox hb; have BK711 := zm (hbox); have GW711 := zge w hg zB; have GE711 := zge w hg zB; replace HB := zm (below_step zB hb); have NB710_711 := zlt hg (zb BK710); have NB711_710 := zgt hg (zb BK710); replace BK710 := zm (blk_below (zb BK710) hb); clear hb hbox hg; have hnb9 := NB710_711.out; have hnc9 := NB711_710.out; have hcz10_0 : w8.cell? ⟨gb710, 0, none⟩ = some (.slice A0_0 l0_0.length c0_0) := (blk_cell BK710.out 0).trans rfl; have hcz10_1 : w8.cell? ⟨gb710, 1, none⟩ = some (.slice A0_1 l0_1.length c0_1) := (blk_cell BK710.out 1).trans rfl; have hfz10_0 := blk_frozen BK710.out 0; have hfz10_1 := blk_frozen BK710.out 1) | ((with_reducible refine gate_callee (f := 68) rfl ?_); refine zg (some 13) #[.agg #[.slice A0_0 l0_0.length c0_0, .slice A0_1 l0_1.length c0_1], .int .i64 a1] Try.func68 ?_; (with_reducible refine (impl_present.calls k _ _ l0_0 _ _ l0_1 a1 t712 t713 t714 t715 t716 t717 _ (zk (Kd.C_below HR0_0.out HB.out)) HC0_0.out (zk (Kd.C_below HR0_1.out HB.out)) HC0_1.out A4.out).mono ?_); rintro e w11 ⟨rfl, hb⟩; refine ⟨_, rfl, ?_⟩; replace BK710 := zm (blk_below (zb BK710) hb); replace BK711 := zm (blk_below (zb BK711) hb); replace HB := zm (below_step zB hb); clear hb) | ((with_reducible refine gate_dst (N := 8) rfl ?_); (try (refine gate_guard (by rfl) ?_; dsimp only)); refine zbox 8 #[.int .i64 0, .int .i64 0, .int .i64 0, .int .i64 0, .string (⟨#[]⟩ : ByteArray)] 66 ?_; intro gb718 hg w12 hbox hb; have BK718 := zm (hbox); have GW718 := zge w hg zB; have GE718 := zge w hg zB; replace HB := zm (below_step zB hb); have NB710_718 := zlt hg (zb BK710); have NB718_710 := zgt hg (zb BK710); replace BK710 := zm (blk_below (zb BK710) hb); have NB711_718 := zlt hg (zb BK711); have NB718_711 := zgt hg (zb BK711); replace BK711 := zm (blk_below (zb BK711) hb); clear hb hbox hg; have hnb13 := NB718_710.out; have hnc13 := NB710_718.out; have hnb14 := NB718_711.out; have hnc14 := NB711_718.out; have hcz15_0 : w12.cell? ⟨gb718, 0, none⟩ = some (.int .i64 0) := (blk_cell BK718.out 0).trans rfl; have hcz15_1 : w12.cell? ⟨gb718, 1, none⟩ = some (.int .i64 0) := (blk_cell BK718.out 1).trans rfl; have hcz15_2 : w12.cell? ⟨gb718, 2, none⟩ = some (.int .i64 0) := (blk_cell BK718.out 2).trans rfl; have hcz15_3 : w12.cell? ⟨gb718, 3, none⟩ = some (.int .i64 0) := (blk_cell BK718.out 3).trans rfl; have hcz15_4 : w12.cell? ⟨gb718, 4, none⟩ = some (.string (⟨#[]⟩ : ByteArray)) := (blk_cell BK718.out 4).trans rfl; have hfz15_0 := blk_frozen BK718.out 0; have hfz15_1 := blk_frozen BK718.out 1; have hfz15_2 := blk_frozen BK718.out 2; have hfz15_3 := blk_frozen BK718.out 3; have hfz15_4 := blk_frozen BK718.out 4; have hcz16_0 : w12.cell? ⟨gb711, 0, none⟩ = some (.slice none 0 0) := (blk_cell BK711.out 0).trans rfl; have hcz16_1 : w12.cell? ⟨gb711, 1, none⟩ = some (.slice none 0 0) := (blk_cell BK711.out 1).trans rfl; have hfz16_0 := blk_frozen BK711.out 0; have hfz16_1 := blk_frozen BK711.out 1))
   refine bodyPost_ret (results_ct rfl _ _ gb711 32 #[.slice none 0 0, .slice none 0 0] (0, 0) _ rfl (zput (zput (zfar (zfar (zfar (zfar (zfar (zb BK711) NB711_718) NB711_718) NB711_718) NB711_718) NB711_718) 0) 1) Try.underlying32 rfl (by kernel_rfl)) rfl ?_
   exact ⟨_, _, zE, by first | exact Kd.R_nil _ _ _ _ _ | exact Kd.N_nil _ _ _ _ _ | exact Kd.V_nil _ _ _ _ _ | exact Kd.Q_nil _ _ _ _ _ | exact Kd.S_nil _ _ _ _ _, by first | exact Kd.R_nil _ _ _ _ _ | exact Kd.N_nil _ _ _ _ _ | exact Kd.V_nil _ _ _ _ _ | exact Kd.Q_nil _ _ _ _ _ | exact Kd.S_nil _ _ _ _ _, zB⟩
  ·rw [if_neg c6] at H
   have c6b0 : (t715 == 1000) = false := beq_eq_false_iff_ne.mpr c6
   have c6b1 : (t715 != 1000) = true := bne_iff_ne.mpr c6
   by_cases c17 : (a2.size : Int) > 8
   ·rw [if_pos c17] at H
    have c17b0 : decide (8 < (a2.size : Int)) = true := decide_eq_true c17
    have c17b1 : decide (8 < a2.size) = true := decide_eq_true (by omega)
    clear c17
    simp only [Option.some.injEq, Prod.mk.injEq] at H
    obtain ⟨rfl, rfl, rfl⟩ := H
    go_enter Try.func30, Try.ntmps30
    go_wp2_with (first | ((with_reducible refine gate_dst (N := 3) rfl ?_); (try (refine gate_guard (by rfl) ?_; dsimp only)); refine zbox 3 #[.slice A0_0 l0_0.length c0_0, .slice A0_1 l0_1.length c0_1] 32 ?_; intro gb710 hg w18 hbox hb; have BK710 := zm (hbox); have GW710 := zge w hg zB; have GE710 := zge w hg zB; replace HB := zm (below_step zB hb); clear hb hbox hg) | ((with_reducible refine gate_dst (N := 6) rfl ?_); (try (refine gate_guard (by rfl) ?_; dsimp only)); refine zbox 6 #[.slice none 0 0, .slice none 0 0] 32 ?_; intro gb711 hg w19 hbox hb; have BK711 := zm (hbox); have GW711 := zge w hg zB; have GE711 := zge w hg zB; replace HB := zm (below_step zB hb); have NB710_711 := zlt hg (zb BK710); have NB711_710 := zgt hg (zb BK710); replace BK710 := zm (blk_below (zb BK710) hb); clear hb hbox hg; have hnb20 := NB710_711.out; have hnc20 := NB711_710.out; have hcz21_0 : w19.cell? ⟨gb710, 0, none⟩ = some (.slice A0_0 l0_0.length c0_0) := (blk_cell BK710.out 0).trans rfl; have hcz21_1 : w19.cell? ⟨gb710, 1, none⟩ = some (.slice A0_1 l0_1.length c0_1) := (blk_cell BK710.out 1).trans rfl; have hfz21_0 := blk_frozen BK710.out 0; have hfz21_1 := blk_frozen BK710.out 1) | ((with_reducible refine gate_callee (f := 68) rfl ?_); refine zg (some 13) #[.agg #[.slice A0_0 l0_0.length c0_0, .slice A0_1 l0_1.length c0_1], .int .i64 a1] Try.func68 ?_; (with_reducible refine (impl_present.calls k _ _ l0_0 _ _ l0_1 a1 t712 t713 t714 t715 t716 t717 _ (zk (Kd.C_below HR0_0.out HB.out)) HC0_0.out (zk (Kd.C_below HR0_1.out HB.out)) HC0_1.out A4.out).mono ?_); rintro e w22 ⟨rfl, hb⟩; refine ⟨_, rfl, ?_⟩; replace BK710 := zm (blk_below (zb BK710) hb); replace BK711 := zm (blk_below (zb BK711) hb); replace HB := zm (below_step zB hb); clear hb) | ((with_reducible refine gate_dst (N := 8) rfl ?_); (try (refine gate_guard (by rfl) ?_; dsimp only)); refine zbox 8 #[.int .i64 0, .int .i64 0, .int .i64 0, .int .i64 0, .string (⟨#[]⟩ : ByteArray)] 66 ?_; intro gb718 hg w23 hbox hb; have BK718 := zm (hbox); have GW718 := zge w hg zB; have GE718 := zge w hg zB; replace HB := zm (below_step zB hb); have NB710_718 := zlt hg (zb BK710); have NB718_710 := zgt hg (zb BK710); replace BK710 := zm (blk_below (zb BK710) hb); have NB711_718 := zlt hg (zb BK711); have NB718_711 := zgt hg (zb BK711); replace BK711 := zm (blk_below (zb BK711) hb); clear hb hbox hg; have hnb24 := NB718_710.out; have hnc24 := NB710_718.out; have hnb25 := NB718_711.out; have hnc25 := NB711_718.out; have hcz26_0 : w23.cell? ⟨gb718, 0, none⟩ = some (.int .i64 0) := (blk_cell BK718.out 0).trans rfl; have hcz26_1 : w23.cell? ⟨gb718, 1, none⟩ = some (.int .i64 0) := (blk_cell BK718.out 1).trans rfl; have hcz26_2 : w23.cell? ⟨gb718, 2, none⟩ = some (.int .i64 0) := (blk_cell BK718.out 2).trans rfl; have hcz26_3 : w23.cell? ⟨gb718, 3, none⟩ = some (.int .i64 0) := (blk_cell BK718.out 3).trans rfl; have hcz26_4 : w23.cell? ⟨gb718, 4, none⟩ = some (.string (⟨#[]⟩ : ByteArray)) := (blk_cell BK718.out 4).trans rfl; have hfz26_0 := blk_frozen BK718.out 0; have hfz26_1 := blk_frozen BK718.out 1; have hfz26_2 := blk_frozen BK718.out 2; have hfz26_3 := blk_frozen BK718.out 3; have hfz26_4 := blk_frozen BK718.out 4; have hcz27_0 : w23.cell? ⟨gb711, 0, none⟩ = some (.slice none 0 0) := (blk_cell BK711.out 0).trans rfl; have hcz27_1 : w23.cell? ⟨gb711, 1, none⟩ = some (.slice none 0 0) := (blk_cell BK711.out 1).trans rfl; have hfz27_0 := blk_frozen BK711.out 0; have hfz27_1 := blk_frozen BK711.out 1))
    refine bodyPost_ret (results_ct rfl _ _ gb711 32 #[.slice none 0 0, .slice none 0 0] (0, 0) _ rfl (zput (zput (zfar (zfar (zfar (zfar (zfar (zb BK711) NB711_718) NB711_718) NB711_718) NB711_718) NB711_718) 0) 1) Try.underlying32 rfl (by kernel_rfl)) rfl ?_
    exact ⟨_, _, zE, by first | exact Kd.R_nil _ _ _ _ _ | exact Kd.N_nil _ _ _ _ _ | exact Kd.V_nil _ _ _ _ _ | exact Kd.Q_nil _ _ _ _ _ | exact Kd.S_nil _ _ _ _ _, by first | exact Kd.R_nil _ _ _ _ _ | exact Kd.N_nil _ _ _ _ _ | exact Kd.V_nil _ _ _ _ _ | exact Kd.Q_nil _ _ _ _ _ | exact Kd.S_nil _ _ _ _ _, zB⟩
   ·rw [if_neg c17] at H
    have c17b0 : decide (8 < (a2.size : Int)) = false := decide_eq_false c17
    have c17b1 : decide (8 < a2.size) = false := decide_eq_false (by omega)
    clear c17
    replace H := Option.bind_eq_some_iff.mp H
    obtain ⟨⟨t719, t722, t725⟩, A280, H⟩ := H
    replace H : (some (t719, t722, t725)) = some (r1, r2, r3) := H
    have A28 := zm A280
    clear A280
    simp only [Option.some.injEq, Prod.mk.injEq] at H
    obtain ⟨rfl, rfl, rfl⟩ := H
    go_enter Try.func30, Try.ntmps30
    go_wp2_with (first | ((with_reducible refine gate_dst (N := 3) rfl ?_); (try (refine gate_guard (by rfl) ?_; dsimp only)); refine zbox 3 #[.slice A0_0 l0_0.length c0_0, .slice A0_1 l0_1.length c0_1] 32 ?_; intro gb710 hg w29 hbox hb; have BK710 := zm (hbox); have GW710 := zge w hg zB; have GE710 := zge w hg zB; replace HB := zm (below_step zB hb); clear hb hbox hg) | ((with_reducible refine gate_dst (N := 6) rfl ?_); (try (refine gate_guard (by rfl) ?_; dsimp only)); refine zbox 6 #[.slice none 0 0, .slice none 0 0] 32 ?_; intro gb711 hg w30 hbox hb; have BK711 := zm (hbox); have GW711 := zge w hg zB; have GE711 := zge w hg zB; replace HB := zm (below_step zB hb); have NB710_711 := zlt hg (zb BK710); have NB711_710 := zgt hg (zb BK710); replace BK710 := zm (blk_below (zb BK710) hb); clear hb hbox hg; have hnb31 := NB710_711.out; have hnc31 := NB711_710.out; have hcz32_0 : w30.cell? ⟨gb710, 0, none⟩ = some (.slice A0_0 l0_0.length c0_0) := (blk_cell BK710.out 0).trans rfl; have hcz32_1 : w30.cell? ⟨gb710, 1, none⟩ = some (.slice A0_1 l0_1.length c0_1) := (blk_cell BK710.out 1).trans rfl; have hfz32_0 := blk_frozen BK710.out 0; have hfz32_1 := blk_frozen BK710.out 1) | ((with_reducible refine gate_callee (f := 68) rfl ?_); refine zg (some 13) #[.agg #[.slice A0_0 l0_0.length c0_0, .slice A0_1 l0_1.length c0_1], .int .i64 a1] Try.func68 ?_; (with_reducible refine (impl_present.calls k _ _ l0_0 _ _ l0_1 a1 t712 t713 t714 t715 t716 t717 _ (zk (Kd.C_below HR0_0.out HB.out)) HC0_0.out (zk (Kd.C_below HR0_1.out HB.out)) HC0_1.out A4.out).mono ?_); rintro e w33 ⟨rfl, hb⟩; refine ⟨_, rfl, ?_⟩; replace BK710 := zm (blk_below (zb BK710) hb); replace BK711 := zm (blk_below (zb BK711) hb); replace HB := zm (below_step zB hb); clear hb) | ((with_reducible refine gate_dst (N := 8) rfl ?_); (try (refine gate_guard (by rfl) ?_; dsimp only)); refine zbox 8 #[.int .i64 0, .int .i64 0, .int .i64 0, .int .i64 0, .string (⟨#[]⟩ : ByteArray)] 66 ?_; intro gb718 hg w34 hbox hb; have BK718 := zm (hbox); have GW718 := zge w hg zB; have GE718 := zge w hg zB; replace HB := zm (below_step zB hb); have NB710_718 := zlt hg (zb BK710); have NB718_710 := zgt hg (zb BK710); replace BK710 := zm (blk_below (zb BK710) hb); have NB711_718 := zlt hg (zb BK711); have NB718_711 := zgt hg (zb BK711); replace BK711 := zm (blk_below (zb BK711) hb); clear hb hbox hg; have hnb35 := NB718_710.out; have hnc35 := NB710_718.out; have hnb36 := NB718_711.out; have hnc36 := NB711_718.out; have hcz37_0 : w34.cell? ⟨gb718, 0, none⟩ = some (.int .i64 0) := (blk_cell BK718.out 0).trans rfl; have hcz37_1 : w34.cell? ⟨gb718, 1, none⟩ = some (.int .i64 0) := (blk_cell BK718.out 1).trans rfl; have hcz37_2 : w34.cell? ⟨gb718, 2, none⟩ = some (.int .i64 0) := (blk_cell BK718.out 2).trans rfl; have hcz37_3 : w34.cell? ⟨gb718, 3, none⟩ = some (.int .i64 0) := (blk_cell BK718.out 3).trans rfl; have hcz37_4 : w34.cell? ⟨gb718, 4, none⟩ = some (.string (⟨#[]⟩ : ByteArray)) := (blk_cell BK718.out 4).trans rfl; have hfz37_0 := blk_frozen BK718.out 0; have hfz37_1 := blk_frozen BK718.out 1; have hfz37_2 := blk_frozen BK718.out 2; have hfz37_3 := blk_frozen BK718.out 3; have hfz37_4 := blk_frozen BK718.out 4) | ((with_reducible refine gate_callee (f := 69) rfl ?_); refine zg (some 39) #[.int .i64 a1, .agg #[.int .i64 t712, .int .i64 t713, .int .i64 t714, .int .i64 (wrap64 (t715 + 1)), .string a2]] Try.func69 ?_; (with_reducible refine (impl_saying.calls a1 t712 t713 t714 (wrap64 (t715 + 1)) a2 t719 t722 t725 _ A28.out).mono ?_); rintro e w38 ⟨v720, v723, rfl, ho0, ho1, hb⟩; refine ⟨_, rfl, ?_⟩; have HO721 := zm (Kd.R_lower ho0 (below_size zB)); have HO724 := zm (Kd.R_lower ho1 (below_size zB)); replace BK710 := zm (blk_below (g := gb710) (o := .cells #[.slice A0_0 l0_0.length c0_0, .slice A0_1 l0_1.length c0_1] 32 (0, 0)) (zfar (zfar (zfar (zfar (zfar (zfar (zfar (zb BK710) NB710_718) NB710_718) NB710_718) NB710_718) NB710_718) NB710_718) NB710_718) hb); replace BK711 := zm (blk_below (g := gb711) (o := .cells #[.slice none 0 0, .slice none 0 0] 32 (0, 0)) (zfar (zfar (zfar (zfar (zfar (zfar (zfar (zb BK711) NB711_718) NB711_718) NB711_718) NB711_718) NB711_718) NB711_718) NB711_718) hb); replace BK718 := zm (blk_below (g := gb718) (o := .cells #[.int .i64 t712, .int .i64 t713, .int .i64 t714, .int .i64 (wrap64 (t715 + 1)), .string a2] 66 (0, 0)) (zput (zput (zput (zput (zput (zput (zput (zb BK718) 0) 1) 2) 3) 4) 3) 4) hb); replace HB := zm (below_step zB hb); clear hb ho0 ho1; obtain ⟨Ao39, co39, eo39⟩ := Kd.R_slice HO721.out; subst eo39; have hcz40_0 : w38.cell? ⟨gb711, 0, none⟩ = some (.slice none 0 0) := (blk_cell BK711.out 0).trans rfl; have hcz40_1 : w38.cell? ⟨gb711, 1, none⟩ = some (.slice none 0 0) := (blk_cell BK711.out 1).trans rfl; have hfz40_0 := blk_frozen BK711.out 0; have hfz40_1 := blk_frozen BK711.out 1; obtain ⟨Ao41, co41, eo41⟩ := Kd.R_slice HO724.out; subst eo41))
    refine bodyPost_ret (results_ct rfl _ _ gb711 32 #[.slice Ao39 t719.length co39, .slice Ao41 t722.length co41] (0, 0) _ rfl (zput (zput (zb BK711) 0) 1) Try.underlying32 rfl (by kernel_rfl)) rfl ?_
    exact ⟨_, _, zE, zrs <| Kd.R_mono (zfr (zfr (Kd.R_types HO721.out BK711.out (by decide)))) (fun _ hk => trivial), zrs <| Kd.R_mono (zfr (zfr (Kd.R_types HO724.out BK711.out (by decide)))) (fun _ hk => trivial), zB⟩
 ·rw [if_neg c5] at H
  have c5b0 : (t717 == 0) = false := beq_eq_false_iff_ne.mpr c5
  have c5b1 : (t717 != 0) = true := bne_iff_ne.mpr c5
  simp only [Option.some.injEq, Prod.mk.injEq] at H
  obtain ⟨rfl, rfl, rfl⟩ := H
  go_enter Try.func30, Try.ntmps30
  go_wp2_with (first | ((with_reducible refine gate_dst (N := 3) rfl ?_); (try (refine gate_guard (by rfl) ?_; dsimp only)); refine zbox 3 #[.slice A0_0 l0_0.length c0_0, .slice A0_1 l0_1.length c0_1] 32 ?_; intro gb710 hg w42 hbox hb; have BK710 := zm (hbox); have GW710 := zge w hg zB; have GE710 := zge w hg zB; replace HB := zm (below_step zB hb); clear hb hbox hg) | ((with_reducible refine gate_dst (N := 6) rfl ?_); (try (refine gate_guard (by rfl) ?_; dsimp only)); refine zbox 6 #[.slice none 0 0, .slice none 0 0] 32 ?_; intro gb711 hg w43 hbox hb; have BK711 := zm (hbox); have GW711 := zge w hg zB; have GE711 := zge w hg zB; replace HB := zm (below_step zB hb); have NB710_711 := zlt hg (zb BK710); have NB711_710 := zgt hg (zb BK710); replace BK710 := zm (blk_below (zb BK710) hb); clear hb hbox hg; have hnb44 := NB710_711.out; have hnc44 := NB711_710.out; have hcz45_0 : w43.cell? ⟨gb710, 0, none⟩ = some (.slice A0_0 l0_0.length c0_0) := (blk_cell BK710.out 0).trans rfl; have hcz45_1 : w43.cell? ⟨gb710, 1, none⟩ = some (.slice A0_1 l0_1.length c0_1) := (blk_cell BK710.out 1).trans rfl; have hfz45_0 := blk_frozen BK710.out 0; have hfz45_1 := blk_frozen BK710.out 1) | ((with_reducible refine gate_callee (f := 68) rfl ?_); refine zg (some 13) #[.agg #[.slice A0_0 l0_0.length c0_0, .slice A0_1 l0_1.length c0_1], .int .i64 a1] Try.func68 ?_; (with_reducible refine (impl_present.calls k _ _ l0_0 _ _ l0_1 a1 t712 t713 t714 t715 t716 t717 _ (zk (Kd.C_below HR0_0.out HB.out)) HC0_0.out (zk (Kd.C_below HR0_1.out HB.out)) HC0_1.out A4.out).mono ?_); rintro e w46 ⟨rfl, hb⟩; refine ⟨_, rfl, ?_⟩; replace BK710 := zm (blk_below (zb BK710) hb); replace BK711 := zm (blk_below (zb BK711) hb); replace HB := zm (below_step zB hb); clear hb) | ((with_reducible refine gate_dst (N := 8) rfl ?_); (try (refine gate_guard (by rfl) ?_; dsimp only)); refine zbox 8 #[.int .i64 0, .int .i64 0, .int .i64 0, .int .i64 0, .string (⟨#[]⟩ : ByteArray)] 66 ?_; intro gb718 hg w47 hbox hb; have BK718 := zm (hbox); have GW718 := zge w hg zB; have GE718 := zge w hg zB; replace HB := zm (below_step zB hb); have NB710_718 := zlt hg (zb BK710); have NB718_710 := zgt hg (zb BK710); replace BK710 := zm (blk_below (zb BK710) hb); have NB711_718 := zlt hg (zb BK711); have NB718_711 := zgt hg (zb BK711); replace BK711 := zm (blk_below (zb BK711) hb); clear hb hbox hg; have hnb48 := NB718_710.out; have hnc48 := NB710_718.out; have hnb49 := NB718_711.out; have hnc49 := NB711_718.out; have hcz50_0 : w47.cell? ⟨gb718, 0, none⟩ = some (.int .i64 0) := (blk_cell BK718.out 0).trans rfl; have hcz50_1 : w47.cell? ⟨gb718, 1, none⟩ = some (.int .i64 0) := (blk_cell BK718.out 1).trans rfl; have hcz50_2 : w47.cell? ⟨gb718, 2, none⟩ = some (.int .i64 0) := (blk_cell BK718.out 2).trans rfl; have hcz50_3 : w47.cell? ⟨gb718, 3, none⟩ = some (.int .i64 0) := (blk_cell BK718.out 3).trans rfl; have hcz50_4 : w47.cell? ⟨gb718, 4, none⟩ = some (.string (⟨#[]⟩ : ByteArray)) := (blk_cell BK718.out 4).trans rfl; have hfz50_0 := blk_frozen BK718.out 0; have hfz50_1 := blk_frozen BK718.out 1; have hfz50_2 := blk_frozen BK718.out 2; have hfz50_3 := blk_frozen BK718.out 3; have hfz50_4 := blk_frozen BK718.out 4; have hcz51_0 : w47.cell? ⟨gb711, 0, none⟩ = some (.slice none 0 0) := (blk_cell BK711.out 0).trans rfl; have hcz51_1 : w47.cell? ⟨gb711, 1, none⟩ = some (.slice none 0 0) := (blk_cell BK711.out 1).trans rfl; have hfz51_0 := blk_frozen BK711.out 0; have hfz51_1 := blk_frozen BK711.out 1))
  refine bodyPost_ret (results_ct rfl _ _ gb711 32 #[.slice none 0 0, .slice none 0 0] (0, 0) _ rfl (zput (zput (zfar (zfar (zfar (zfar (zfar (zb BK711) NB711_718) NB711_718) NB711_718) NB711_718) NB711_718) 0) 1) Try.underlying32 rfl (by kernel_rfl)) rfl ?_
  exact ⟨_, _, zE, by first | exact Kd.R_nil _ _ _ _ _ | exact Kd.N_nil _ _ _ _ _ | exact Kd.V_nil _ _ _ _ _ | exact Kd.Q_nil _ _ _ _ _ | exact Kd.S_nil _ _ _ _ _, by first | exact Kd.R_nil _ _ _ _ _ | exact Kd.N_nil _ _ _ _ _ | exact Kd.V_nil _ _ _ _ _ | exact Kd.Q_nil _ _ _ _ _ | exact Kd.S_nil _ _ _ _ _, zB⟩

/-! ### spec_l1Max: function 75 -/
def spec_l1Max.f (a0 : Int) (a1 : Int) : Option (Int) := if a0 > a1 then (some a0) else (some a1)
set_option maxHeartbeats 8000000 in
set_option maxRecDepth 100000 in
theorem spec_l1Max.calls (a0 : Int) (a1 : Int) (r : Int) (w : World) (h : spec_l1Max.f a0 a1 = some r) :
  Calls Try.prog 75 #[.int .i64 a0, .int .i64 a1] w fun e w' => e = .returned (.int .i64 r) ∧ Drawn0 w w' := by
 have H : (if a0 > a1 then (some a0) else (some a1)) = some r := h
 clear h
 by_cases c3 : a0 > a1
 ·rw [if_pos c3] at H
  have c3b0 : decide (a1 < a0) = true := decide_eq_true c3
  clear c3
  obtain rfl := Option.some.inj H
  go_enter Try.func75, Try.ntmps75
  go_wp2
  go_ret
  exact ⟨zF, zD⟩
 ·rw [if_neg c3] at H
  have c3b0 : decide (a1 < a0) = false := decide_eq_false c3
  clear c3
  obtain rfl := Option.some.inj H
  go_enter Try.func75, Try.ntmps75
  go_wp2
  go_ret
  exact ⟨zF, zD⟩

/-! ### spec_SayJoin: function 31 -/
def spec_SayJoin.j0 : Nat → Int → Bool → List (S68) → List (S72) → Option ((List (S68)) × (List (S72)) × Int)
 | 0, _, _, _, _ => none
 | k + 1, x1, x18, x790000, x790001 => if x18 = true then (some (([] : List (S68)), ([] : List (S72)), 1)) else ((spec_Lookup.f k x790000 x790001 x1).bind fun bt793 => (if bt793.2.2.2.2.2 = true then (some (([] : List (S68)), ([] : List (S72)), 2)) else ((spec_EntryOf.f k x790000 x790001 x1).bind fun bt800 => ((spec_FloorOf.f k x790000 x790001 x1).bind fun t807 => ((spec_l1Max.f bt800.1 t807).bind fun t808 => (if t808 = 1000 then (some (([] : List (S68)), ([] : List (S72)), 4)) else ((spec_l5One.f k x1 (wrap64 (t808 + 1)) 0 0 0 (⟨#[]⟩ : ByteArray)).bind fun bt809 => (some (bt809.1, bt809.2.1, bt809.2.2)))))))))
def spec_SayJoin.f (k : Nat) (l0_0 : List (S68)) (l0_1 : List (S72)) (a1 : Int) : Option ((List (S68)) × (List (S72)) × Int) := (spec_StateOk.f k l0_0 l0_1).bind fun t791 => (if t791 = true then ((spec_l3Node.f a1).bind fun t792 => (spec_SayJoin.j0 k a1 (!t792) l0_0 l0_1)) else (spec_SayJoin.j0 k a1 true l0_0 l0_1))
theorem spec_SayJoin.mono_l : ∀ k, (∀ y0 y1 y2 y3, LeO (spec_SayJoin.j0 k y0 y1 y2 y3) (spec_SayJoin.j0 (k + 1) y0 y1 y2 y3))
 | 0 => fun _ _ _ _ r h => by simp [spec_SayJoin.j0] at h
 | k + 1 => by
  have ih0 := spec_SayJoin.mono_l k
  ·intro y0 y1 y2 y3
   unfold spec_SayJoin.j0
   repeat' first
   | (with_reducible exact ih0 _ _ _ _)
   | (with_reducible exact spec_EntryOf.mono _ _ _ _)
   | (with_reducible exact spec_FloorOf.mono _ _ _ _)
   | (with_reducible exact spec_Lookup.mono _ _ _ _)
   | (with_reducible exact spec_StateOk.mono _ _ _)
   | (with_reducible exact spec_l5One.mono _ _ _ _ _ _ _)
   | (with_reducible exact LeO.refl _)
   | (with_reducible exact LeO.none _)
   | (with_reducible refine LeO.ite ?_ ?_)
   | (with_reducible refine LeO.bind ?_ (fun _ => ?_))
   | exact ih0 _ _ _ _
   | exact spec_EntryOf.mono _ _ _ _
   | exact spec_FloorOf.mono _ _ _ _
   | exact spec_Lookup.mono _ _ _ _
   | exact spec_StateOk.mono _ _ _
   | exact spec_l5One.mono _ _ _ _ _ _ _
   | exact LeO.none _
   | refine LeO.ite ?_ ?_
   | refine LeO.bind ?_ (fun _ => ?_)
theorem spec_SayJoin.mono : ∀ a0 a1 a2 k, LeO (spec_SayJoin.f k a0 a1 a2) (spec_SayJoin.f (k + 1) a0 a1 a2) := by
 intro a0 a1 a2 k
 have ih0 := spec_SayJoin.mono_l k
 unfold spec_SayJoin.f
 repeat' first
   | (with_reducible exact ih0 _ _ _ _)
   | (with_reducible exact spec_EntryOf.mono _ _ _ _)
   | (with_reducible exact spec_FloorOf.mono _ _ _ _)
   | (with_reducible exact spec_Lookup.mono _ _ _ _)
   | (with_reducible exact spec_StateOk.mono _ _ _)
   | (with_reducible exact spec_l5One.mono _ _ _ _ _ _ _)
   | (with_reducible exact LeO.refl _)
   | (with_reducible exact LeO.none _)
   | (with_reducible refine LeO.ite ?_ ?_)
   | (with_reducible refine LeO.bind ?_ (fun _ => ?_))
   | exact ih0 _ _ _ _
   | exact spec_EntryOf.mono _ _ _ _
   | exact spec_FloorOf.mono _ _ _ _
   | exact spec_Lookup.mono _ _ _ _
   | exact spec_StateOk.mono _ _ _
   | exact spec_l5One.mono _ _ _ _ _ _ _
   | exact LeO.none _
   | refine LeO.ite ?_ ?_
   | refine LeO.bind ?_ (fun _ => ?_)
set_option maxHeartbeats 8000000 in
set_option maxRecDepth 100000 in
theorem spec_SayJoin.calls (k : Nat) (A0_0 : Option Addr) (c0_0 : Nat) (l0_0 : List (S68)) (A0_1 : Option Addr) (c0_1 : Nat) (l0_1 : List (S72)) (a1 : Int) (r1 : List (S68)) (r2 : List (S72)) (r3 : Int) (w : World) (hr0_0 : Kd.C k68 w A0_0 l0_0.length l0_0) (hc0_0 : l0_0.length ≤ c0_0) (hr0_1 : Kd.C k72 w A0_1 l0_1.length l0_1) (hc0_1 : l0_1.length ≤ c0_1) (h : spec_SayJoin.f k l0_0 l0_1 a1 = some (r1, r2, r3)) :
  Calls Try.prog 31 #[.agg #[.slice A0_0 l0_0.length c0_0, .slice A0_1 l0_1.length c0_1], .int .i64 a1] w fun e w' => ∃ v0_ v1_ : Value, e = .returned (.tuple #[.agg #[v0_, v1_], .int .i64 r3]) ∧ Kd.R k68 68 w' w.heap.size (fun _ => True) v0_ r1 ∧ Kd.R k72 72 w' w.heap.size (fun _ => True) v1_ r2 ∧ Below w.heap.size w w' := by
 have hu32 := Try.underlying32
 have hu66 := Try.underlying66
 have HR0_0 := zm hr0_0
 have HC0_0 := zm hc0_0
 clear hr0_0 hc0_0
 have HR0_1 := zm hr0_1
 have HC0_1 := zm hc0_1
 clear hr0_1 hc0_1
 have HB := zm (Below.refl w.heap.size w)
 have H : ((spec_StateOk.f k l0_0 l0_1).bind fun t791 => (if t791 = true then ((spec_l3Node.f a1).bind fun t792 => (spec_SayJoin.j0 k a1 (!t792) l0_0 l0_1)) else (spec_SayJoin.j0 k a1 true l0_0 l0_1))) = some (r1, r2, r3) := h
 clear h
 have HC3 := zm H
 clear H
 go_enter Try.func31, Try.ntmps31
 go_upto_region 1 with (first | ((with_reducible refine gate_dst (N := 2) rfl ?_); refine zbox 2 #[.slice A0_0 l0_0.length c0_0, .slice A0_1 l0_1.length c0_1] 32 ?_; intro gb789 hg w4 hbox hb; have BK789 := zm (hbox); have GW789 := zge w hg zB; have GE789 := zge w hg zB; replace HB := zm (below_step zB hb); clear hb hbox hg) | ((with_reducible refine gate_dst (N := 4) rfl ?_); refine zbox 4 #[.slice none 0 0, .slice none 0 0] 32 ?_; intro gb790 hg w5 hbox hb; have BK790 := zm (hbox); have GW790 := zge w hg zB; have GE790 := zge w hg zB; replace HB := zm (below_step zB hb); have NB789_790 := zlt hg (zb BK789); have NB790_789 := zgt hg (zb BK789); replace BK789 := zm (blk_below (zb BK789) hb); clear hb hbox hg))
 (try simp only [Act.put, List.setIfInBounds_toArray, List.set_cons_zero, List.set_cons_succ])
 go_cut [18] (fun v18 wc => ∃ (kq : Nat) (x18_2 : Bool), v18 = .bool x18_2 ∧ Aside0 (spec_SayJoin.j0 kq a1 x18_2 l0_0 l0_1 = some (r1, r2, r3)) ∧ Aside0 (kq ≤ k) ∧ Aside0 (wc.heap[gb789]? = some (.cells #[(.slice A0_0 l0_0.length c0_0), (.slice A0_1 l0_1.length c0_1)] 32 (0, 0))) ∧ Aside0 (wc.heap[gb790]? = some (.cells #[(.slice none 0 0), (.slice none 0 0)] 32 (0, 0))) ∧ Aside0 (Below w.heap.size w wc))
 case first =>
  have H := HC3.out
  clear HC3
  replace H := Option.bind_eq_some_iff.mp H
  obtain ⟨t791, A60, H⟩ := H
  replace H : (if t791 = true then ((spec_l3Node.f a1).bind fun t792 => (spec_SayJoin.j0 k a1 (!t792) l0_0 l0_1)) else (spec_SayJoin.j0 k a1 true l0_0 l0_1)) = some (r1, r2, r3) := H
  have A6 := zm A60
  clear A60
  by_cases c7 : t791 = true
  ·subst c7
   have H1 : ((spec_l3Node.f a1).bind fun t792 => (spec_SayJoin.j0 k a1 (!t792) l0_0 l0_1)) = some (r1, r2, r3) := by rw [if_pos rfl] at H; exact H
   clear H
   have H := H1
   clear H1
   replace H := Option.bind_eq_some_iff.mp H
   obtain ⟨t792, A80, H⟩ := H
   replace H : (spec_SayJoin.j0 k a1 (!t792) l0_0 l0_1) = some (r1, r2, r3) := H
   have A8 := zm A80
   clear A80
   have H' := zm H
   clear H
   have hnb9 := NB789_790.out
   have hnc9 := NB790_789.out
   have hcz10_0 : w5.cell? ⟨gb789, 0, none⟩ = some (.slice A0_0 l0_0.length c0_0) := (blk_cell BK789.out 0).trans rfl
   have hcz10_1 : w5.cell? ⟨gb789, 1, none⟩ = some (.slice A0_1 l0_1.length c0_1) := (blk_cell BK789.out 1).trans rfl
   have hfz10_0 := blk_frozen BK789.out 0
   have hfz10_1 := blk_frozen BK789.out 1
   go_wp2_with (first | ((with_reducible refine gate_callee (f := 49) rfl ?_); refine zg (some 12) #[.agg #[.slice A0_0 l0_0.length c0_0, .slice A0_1 l0_1.length c0_1]] Try.func49 ?_; (with_reducible refine (spec_StateOk.calls k _ _ l0_0 _ _ l0_1 true _ (zk (Kd.C_below HR0_0.out HB.out)) HC0_0.out (zk (Kd.C_below HR0_1.out HB.out)) HC0_1.out A6.out).mono ?_); rintro e w11 ⟨rfl, hb⟩; refine ⟨_, rfl, ?_⟩; replace BK789 := zm (blk_below (zb BK789) hb); replace BK790 := zm (blk_below (zb BK790) hb); replace HB := zm (below_step zB hb); clear hb) | (go_at_call 72; (with_reducible refine (spec_l3Node.calls a1 t792 _ A8.out).mono ?_); rintro e w' ⟨rfl, ⟨nd, rfl⟩⟩))
   go_meet
   case rel => exact ⟨_, (!t792), zF, H', ⟨by first | omega | exact Nat.le_refl _⟩, ⟨zb BK789⟩, ⟨zb BK790⟩, ⟨zB⟩⟩
  ·replace c7 := Bool.eq_false_iff.mpr c7
   subst c7
   have H1 : (spec_SayJoin.j0 k a1 true l0_0 l0_1) = some (r1, r2, r3) := by rw [if_neg (show ¬ (false = true) by decide)] at H; exact H
   clear H
   have H := H1
   clear H1
   have H' := zm H
   clear H
   have hnb12 := NB789_790.out
   have hnc12 := NB790_789.out
   have hcz13_0 : w5.cell? ⟨gb789, 0, none⟩ = some (.slice A0_0 l0_0.length c0_0) := (blk_cell BK789.out 0).trans rfl
   have hcz13_1 : w5.cell? ⟨gb789, 1, none⟩ = some (.slice A0_1 l0_1.length c0_1) := (blk_cell BK789.out 1).trans rfl
   have hfz13_0 := blk_frozen BK789.out 0
   have hfz13_1 := blk_frozen BK789.out 1
   go_wp2_with (first | ((with_reducible refine gate_callee (f := 49) rfl ?_); refine zg (some 12) #[.agg #[.slice A0_0 l0_0.length c0_0, .slice A0_1 l0_1.length c0_1]] Try.func49 ?_; (with_reducible refine (spec_StateOk.calls k _ _ l0_0 _ _ l0_1 false _ (zk (Kd.C_below HR0_0.out HB.out)) HC0_0.out (zk (Kd.C_below HR0_1.out HB.out)) HC0_1.out A6.out).mono ?_); rintro e w14 ⟨rfl, hb⟩; refine ⟨_, rfl, ?_⟩; replace BK789 := zm (blk_below (zb BK789) hb); replace BK790 := zm (blk_below (zb BK790) hb); replace HB := zm (below_step zB hb); clear hb))
   go_meet
   case rel => exact ⟨_, (true), zF, H', ⟨by first | omega | exact Nat.le_refl _⟩, ⟨zb BK789⟩, ⟨zb BK790⟩, ⟨zB⟩⟩
 case rest =>
  clear HC3
  try clear c1
  try clear p2
  try clear c3
  try clear c4
  try clear c7
  try clear c9
  try clear c12
  try clear hcz10_0
  try clear hcz10_1
  try clear hcz13_0
  try clear hcz13_1
  try clear hfz10_0
  try clear hfz10_1
  try clear hfz13_0
  try clear hfz13_1
  obtain ⟨kq, x18_2, rfl, HA, HJ2, BK789, BK790, HB⟩ := hcut
  cases kq with
  | zero => exact absurd HA.out (by simp [spec_SayJoin.j0])
  | succ kj2 =>
   have H := HA.out
   clear HA
   simp only [spec_SayJoin.j0] at H
   by_cases c15 : x18_2 = true
   ·subst c15
    have H1 : (some (([] : List (S68)), ([] : List (S72)), 1)) = some (r1, r2, r3) := by rw [if_pos rfl] at H; exact H
    clear H
    have H := H1
    clear H1
    simp only [Option.some.injEq, Prod.mk.injEq] at H
    obtain ⟨rfl, rfl, rfl⟩ := H
    have hnb16 := NB790_789.out
    have hnc16 := NB789_790.out
    have hcz17_0 : wc.cell? ⟨gb790, 0, none⟩ = some (.slice none 0 0) := (blk_cell BK790.out 0).trans rfl
    have hcz17_1 : wc.cell? ⟨gb790, 1, none⟩ = some (.slice none 0 0) := (blk_cell BK790.out 1).trans rfl
    have hfz17_0 := blk_frozen BK790.out 0
    have hfz17_1 := blk_frozen BK790.out 1
    go_wp2
    refine bodyPost_ret (results_ct rfl _ _ gb790 32 #[.slice none 0 0, .slice none 0 0] (0, 0) _ rfl (zput (zput (zb BK790) 0) 1) Try.underlying32 rfl (by kernel_rfl)) rfl ?_
    exact ⟨_, _, zE, by first | exact Kd.R_nil _ _ _ _ _ | exact Kd.N_nil _ _ _ _ _ | exact Kd.V_nil _ _ _ _ _ | exact Kd.Q_nil _ _ _ _ _ | exact Kd.S_nil _ _ _ _ _, by first | exact Kd.R_nil _ _ _ _ _ | exact Kd.N_nil _ _ _ _ _ | exact Kd.V_nil _ _ _ _ _ | exact Kd.Q_nil _ _ _ _ _ | exact Kd.S_nil _ _ _ _ _, zB⟩
   ·replace c15 := Bool.eq_false_iff.mpr c15
    subst c15
    have H1 : ((spec_Lookup.f kj2 l0_0 l0_1 a1).bind fun bt793 => (if bt793.2.2.2.2.2 = true then (some (([] : List (S68)), ([] : List (S72)), 2)) else ((spec_EntryOf.f kj2 l0_0 l0_1 a1).bind fun bt800 => ((spec_FloorOf.f kj2 l0_0 l0_1 a1).bind fun t807 => ((spec_l1Max.f bt800.1 t807).bind fun t808 => (if t808 = 1000 then (some (([] : List (S68)), ([] : List (S72)), 4)) else ((spec_l5One.f kj2 a1 (wrap64 (t808 + 1)) 0 0 0 (⟨#[]⟩ : ByteArray)).bind fun bt809 => (some (bt809.1, bt809.2.1, bt809.2.2))))))))) = some (r1, r2, r3) := by rw [if_neg (show ¬ (false = true) by decide)] at H; exact H
    clear H
    have H := H1
    clear H1
    replace H := Option.bind_eq_some_iff.mp H
    obtain ⟨⟨t793, t794, t795, t796, t797, t798⟩, A180, H⟩ := H
    replace H : (if t798 = true then (some (([] : List (S68)), ([] : List (S72)), 2)) else ((spec_EntryOf.f kj2 l0_0 l0_1 a1).bind fun bt800 => ((spec_FloorOf.f kj2 l0_0 l0_1 a1).bind fun t807 => ((spec_l1Max.f bt800.1 t807).bind fun t808 => (if t808 = 1000 then (some (([] : List (S68)), ([] : List (S72)), 4)) else ((spec_l5One.f kj2 a1 (wrap64 (t808 + 1)) 0 0 0 (⟨#[]⟩ : ByteArray)).bind fun bt809 => (some (bt809.1, bt809.2.1, bt809.2.2)))))))) = some (r1, r2, r3) := H
    have A18 := zm A180
    clear A180
    by_cases c19 : t798 = true
    ·subst c19
     have H1 : (some (([] : List (S68)), ([] : List (S72)), 2)) = some (r1, r2, r3) := by rw [if_pos rfl] at H; exact H
     clear H
     have H := H1
     clear H1
     simp only [Option.some.injEq, Prod.mk.injEq] at H
     obtain ⟨rfl, rfl, rfl⟩ := H
     have hnb20 := NB789_790.out
     have hnc20 := NB790_789.out
     have hcz21_0 : wc.cell? ⟨gb789, 0, none⟩ = some (.slice A0_0 l0_0.length c0_0) := (blk_cell BK789.out 0).trans rfl
     have hcz21_1 : wc.cell? ⟨gb789, 1, none⟩ = some (.slice A0_1 l0_1.length c0_1) := (blk_cell BK789.out 1).trans rfl
     have hfz21_0 := blk_frozen BK789.out 0
     have hfz21_1 := blk_frozen BK789.out 1
     go_wp2_with (first | ((with_reducible refine gate_callee (f := 73) rfl ?_); refine zg (some 23) #[.agg #[.slice A0_0 l0_0.length c0_0, .slice A0_1 l0_1.length c0_1], .int .i64 a1] Try.func73 ?_; (with_reducible refine (spec_Lookup.calls kj2 _ _ l0_0 _ _ l0_1 a1 t793 t794 t795 t796 t797 true _ (zk (Kd.C_below HR0_0.out HB.out)) HC0_0.out (zk (Kd.C_below HR0_1.out HB.out)) HC0_1.out A18.out).mono ?_); rintro e w22 ⟨rfl, hb⟩; refine ⟨_, rfl, ?_⟩; replace BK789 := zm (blk_below (zb BK789) hb); replace BK790 := zm (blk_below (zb BK790) hb); replace HB := zm (below_step zB hb); clear hb) | ((with_reducible refine gate_dst (N := 6) rfl ?_); refine zbox 6 #[.int .i64 0, .int .i64 0, .int .i64 0, .int .i64 0, .string (⟨#[]⟩ : ByteArray)] 66 ?_; intro gb799 hg w23 hbox hb; have BK799 := zm (hbox); have GW799 := zge w hg zB; have GE799 := zge w hg zB; replace HB := zm (below_step zB hb); have NB789_799 := zlt hg (zb BK789); have NB799_789 := zgt hg (zb BK789); replace BK789 := zm (blk_below (zb BK789) hb); have NB790_799 := zlt hg (zb BK790); have NB799_790 := zgt hg (zb BK790); replace BK790 := zm (blk_below (zb BK790) hb); clear hb hbox hg; have hnb24 := NB799_789.out; have hnc24 := NB789_799.out; have hnb25 := NB799_790.out; have hnc25 := NB790_799.out; have hcz26_0 : w23.cell? ⟨gb799, 0, none⟩ = some (.int .i64 0) := (blk_cell BK799.out 0).trans rfl; have hcz26_1 : w23.cell? ⟨gb799, 1, none⟩ = some (.int .i64 0) := (blk_cell BK799.out 1).trans rfl; have hcz26_2 : w23.cell? ⟨gb799, 2, none⟩ = some (.int .i64 0) := (blk_cell BK799.out 2).trans rfl; have hcz26_3 : w23.cell? ⟨gb799, 3, none⟩ = some (.int .i64 0) := (blk_cell BK799.out 3).trans rfl; have hcz26_4 : w23.cell? ⟨gb799, 4, none⟩ = some (.string (⟨#[]⟩ : ByteArray)) := (blk_cell BK799.out 4).trans rfl; have hfz26_0 := blk_frozen BK799.out 0; have hfz26_1 := blk_frozen BK799.out 1; have hfz26_2 := blk_frozen BK799.out 2; have hfz26_3 := blk_frozen BK799.out 3; have hfz26_4 := blk_frozen BK799.out 4; have hcz27_0 : w23.cell? ⟨gb790, 0, none⟩ = some (.slice none 0 0) := (blk_cell BK790.out 0).trans rfl; have hcz27_1 : w23.cell? ⟨gb790, 1, none⟩ = some (.slice none 0 0) := (blk_cell BK790.out 1).trans rfl; have hfz27_0 := blk_frozen BK790.out 0; have hfz27_1 := blk_frozen BK790.out 1))
     refine bodyPost_ret (results_ct rfl _ _ gb790 32 #[.slice none 0 0, .slice none 0 0] (0, 0) _ rfl (zput (zput (zfar (zfar (zfar (zfar (zfar (zb BK790) NB790_799) NB790_799) NB790_799) NB790_799) NB790_799) 0) 1) Try.underlying32 rfl (by kernel_rfl)) rfl ?_
     exact ⟨_, _, zE, by first | exact Kd.R_nil _ _ _ _ _ | exact Kd.N_nil _ _ _ _ _ | exact Kd.V_nil _ _ _ _ _ | exact Kd.Q_nil _ _ _ _ _ | exact Kd.S_nil _ _ _ _ _, by first | exact Kd.R_nil _ _ _ _ _ | exact Kd.N_nil _ _ _ _ _ | exact Kd.V_nil _ _ _ _ _ | exact Kd.Q_nil _ _ _ _ _ | exact Kd.S_nil _ _ _ _ _, zB⟩
    ·replace c19 := Bool.eq_false_iff.mpr c19
     subst c19
     have H1 : ((spec_EntryOf.f kj2 l0_0 l0_1 a1).bind fun bt800 => ((spec_FloorOf.f kj2 l0_0 l0_1 a1).bind fun t807 => ((spec_l1Max.f bt800.1 t807).bind fun t808 => (if t808 = 1000 then (some (([] : List (S68)), ([] : List (S72)), 4)) else ((spec_l5One.f kj2 a1 (wrap64 (t808 + 1)) 0 0 0 (⟨#[]⟩ : ByteArray)).bind fun bt809 => (some (bt809.1, bt809.2.1, bt809.2.2))))))) = some (r1, r2, r3) := by rw [if_neg (show ¬ (false = true) by decide)] at H; exact H
     clear H
     have H := H1
     clear H1
     replace H := Option.bind_eq_some_iff.mp H
     obtain ⟨⟨t800, t801, t802, t803, t804, t805⟩, A280, H⟩ := H
     replace H : ((spec_FloorOf.f kj2 l0_0 l0_1 a1).bind fun t807 => ((spec_l1Max.f t800 t807).bind fun t808 => (if t808 = 1000 then (some (([] : List (S68)), ([] : List (S72)), 4)) else ((spec_l5One.f kj2 a1 (wrap64 (t808 + 1)) 0 0 0 (⟨#[]⟩ : ByteArray)).bind fun bt809 => (some (bt809.1, bt809.2.1, bt809.2.2)))))) = some (r1, r2, r3) := H
     have A28 := zm A280
     clear A280
     replace H := Option.bind_eq_some_iff.mp H
     obtain ⟨t807, A290, H⟩ := H
     replace H : ((spec_l1Max.f t800 t807).bind fun t808 => (if t808 = 1000 then (some (([] : List (S68)), ([] : List (S72)), 4)) else ((spec_l5One.f kj2 a1 (wrap64 (t808 + 1)) 0 0 0 (⟨#[]⟩ : ByteArray)).bind fun bt809 => (some (bt809.1, bt809.2.1, bt809.2.2))))) = some (r1, r2, r3) := H
     have A29 := zm A290
     clear A290
     replace H := Option.bind_eq_some_iff.mp H
     obtain ⟨t808, A300, H⟩ := H
     replace H : (if t808 = 1000 then (some (([] : List (S68)), ([] : List (S72)), 4)) else ((spec_l5One.f kj2 a1 (wrap64 (t808 + 1)) 0 0 0 (⟨#[]⟩ : ByteArray)).bind fun bt809 => (some (bt809.1, bt809.2.1, bt809.2.2)))) = some (r1, r2, r3) := H
     have A30 := zm A300
     clear A300
     by_cases c31 : t808 = 1000
     ·rw [if_pos c31] at H
      have c31b0 : (t808 == 1000) = true := beq_iff_eq.mpr c31
      have c31b1 : (t808 != 1000) = false := bne_eq_false_iff_eq.mpr c31
      clear c31
      simp only [Option.some.injEq, Prod.mk.injEq] at H
      obtain ⟨rfl, rfl, rfl⟩ := H
      have hnb32 := NB789_790.out
      have hnc32 := NB790_789.out
      have hcz33_0 : wc.cell? ⟨gb789, 0, none⟩ = some (.slice A0_0 l0_0.length c0_0) := (blk_cell BK789.out 0).trans rfl
      have hcz33_1 : wc.cell? ⟨gb789, 1, none⟩ = some (.slice A0_1 l0_1.length c0_1) := (blk_cell BK789.out 1).trans rfl
      have hfz33_0 := blk_frozen BK789.out 0
      have hfz33_1 := blk_frozen BK789.out 1
      try go_wp2_with (first | ((with_reducible refine gate_callee (f := 73) rfl ?_); refine zg (some 23) #[.agg #[.slice A0_0 l0_0.length c0_0, .slice A0_1 l0_1.length c0_1], .int .i64 a1] Try.func73 ?_; (with_reducible refine (spec_Lookup.calls kj2 _ _ l0_0 _ _ l0_1 a1 t793 t794 t795 t796 t797 false _ (zk (Kd.C_below HR0_0.out HB.out)) HC0_0.out (zk (Kd.C_below HR0_1.out HB.out)) HC0_1.out A18.out).mono ?_); rintro e w34 ⟨rfl, hb⟩; refine ⟨_, rfl, ?_⟩; replace BK789 := zm (blk_below (zb BK789) hb); replace BK790 := zm (blk_below (zb BK790) hb); replace HB := zm (below_step zB hb); clear hb) | ((with_reducible refine gate_dst (N := 6) rfl ?_); refine zbox 6 #[.int .i64 0, .int .i64 0, .int .i64 0, .int .i64 0, .string (⟨#[]⟩ : ByteArray)] 66 ?_; intro gb799 hg w35 hbox hb; have BK799 := zm (hbox); have GW799 := zge w hg zB; have GE799 := zge w hg zB; replace HB := zm (below_step zB hb); have NB789_799 := zlt hg (zb BK789); have NB799_789 := zgt hg (zb BK789); replace BK789 := zm (blk_below (zb BK789) hb); have NB790_799 := zlt hg (zb BK790); have NB799_790 := zgt hg (zb BK790); replace BK790 := zm (blk_below (zb BK790) hb); clear hb hbox hg; have hnb36 := NB799_789.out; have hnc36 := NB789_799.out; have hnb37 := NB799_790.out; have hnc37 := NB790_799.out; have hcz38_0 : w35.cell? ⟨gb799, 0, none⟩ = some (.int .i64 0) := (blk_cell BK799.out 0).trans rfl; have hcz38_1 : w35.cell? ⟨gb799, 1, none⟩ = some (.int .i64 0) := (blk_cell BK799.out 1).trans rfl; have hcz38_2 : w35.cell? ⟨gb799, 2, none⟩ = some (.int .i64 0) := (blk_cell BK799.out 2).trans rfl; have hcz38_3 : w35.cell? ⟨gb799, 3, none⟩ = some (.int .i64 0) := (blk_cell BK799.out 3).trans rfl; have hcz38_4 : w35.cell? ⟨gb799, 4, none⟩ = some (.string (⟨#[]⟩ : ByteArray)) := (blk_cell BK799.out 4).trans rfl; have hfz38_0 := blk_frozen BK799.out 0; have hfz38_1 := blk_frozen BK799.out 1; have hfz38_2 := blk_frozen BK799.out 2; have hfz38_3 := blk_frozen BK799.out 3; have hfz38_4 := blk_frozen BK799.out 4; have hcz39_0 : w35.cell? ⟨gb789, 0, none⟩ = some (.slice A0_0 l0_0.length c0_0) := (blk_cell BK789.out 0).trans rfl; have hcz39_1 : w35.cell? ⟨gb789, 1, none⟩ = some (.slice A0_1 l0_1.length c0_1) := (blk_cell BK789.out 1).trans rfl; have hfz39_0 := blk_frozen BK789.out 0; have hfz39_1 := blk_frozen BK789.out 1) | ((with_reducible refine gate_callee (f := 74) rfl ?_); refine zg (some 31) #[.agg #[.slice A0_0 l0_0.length c0_0, .slice A0_1 l0_1.length c0_1], .int .i64 a1] Try.func74 ?_; (with_reducible refine (spec_EntryOf.calls kj2 _ _ l0_0 _ _ l0_1 a1 t800 t801 t802 t803 t804 t805 _ ?side1 HC0_0.out ?side3 HC0_1.out A28.out).mono ?_); (case side1 => exact Kd.C_below HR0_0.out zB); (case side3 => exact Kd.C_below HR0_1.out zB); rintro e w40 ⟨rfl, hb⟩; refine ⟨_, rfl, ?_⟩; replace BK789 := zm (blk_below (g := gb789) (o := .cells #[.slice A0_0 l0_0.length c0_0, .slice A0_1 l0_1.length c0_1] 32 (0, 0)) (zfar (zfar (zfar (zfar (zfar (zb BK789) NB789_799) NB789_799) NB789_799) NB789_799) NB789_799) hb); replace BK790 := zm (blk_below (g := gb790) (o := .cells #[.slice none 0 0, .slice none 0 0] 32 (0, 0)) (zfar (zfar (zfar (zfar (zfar (zb BK790) NB790_799) NB790_799) NB790_799) NB790_799) NB790_799) hb); replace BK799 := zm (blk_below (g := gb799) (o := .cells #[.int .i64 t793, .int .i64 t794, .int .i64 t795, .int .i64 t796, .string t797] 66 (0, 0)) (zput (zput (zput (zput (zput (zb BK799) 0) 1) 2) 3) 4) hb); replace HB := zm (below_step zB hb); clear hb) | ((with_reducible refine gate_dst (N := 8) rfl ?_); refine zbox 8 #[.int .i64 0, .int .i64 0, .int .i64 0, .int .i64 0, .string (⟨#[]⟩ : ByteArray)] 66 ?_; intro gb806 hg w41 hbox hb; have BK806 := zm (hbox); have GW806 := zge w hg zB; have GE806 := zge w hg zB; replace HB := zm (below_step zB hb); have NB789_806 := zlt hg (zb BK789); have NB806_789 := zgt hg (zb BK789); replace BK789 := zm (blk_below (zb BK789) hb); have NB790_806 := zlt hg (zb BK790); have NB806_790 := zgt hg (zb BK790); replace BK790 := zm (blk_below (zb BK790) hb); have NB799_806 := zlt hg (zb BK799); have NB806_799 := zgt hg (zb BK799); replace BK799 := zm (blk_below (zb BK799) hb); clear hb hbox hg; have hnb42 := NB806_789.out; have hnc42 := NB789_806.out; have hnb43 := NB806_790.out; have hnc43 := NB790_806.out; have hnb44 := NB806_799.out; have hnc44 := NB799_806.out; have hcz45_0 : w41.cell? ⟨gb806, 0, none⟩ = some (.int .i64 0) := (blk_cell BK806.out 0).trans rfl; have hcz45_1 : w41.cell? ⟨gb806, 1, none⟩ = some (.int .i64 0) := (blk_cell BK806.out 1).trans rfl; have hcz45_2 : w41.cell? ⟨gb806, 2, none⟩ = some (.int .i64 0) := (blk_cell BK806.out 2).trans rfl; have hcz45_3 : w41.cell? ⟨gb806, 3, none⟩ = some (.int .i64 0) := (blk_cell BK806.out 3).trans rfl; have hcz45_4 : w41.cell? ⟨gb806, 4, none⟩ = some (.string (⟨#[]⟩ : ByteArray)) := (blk_cell BK806.out 4).trans rfl; have hfz45_0 := blk_frozen BK806.out 0; have hfz45_1 := blk_frozen BK806.out 1; have hfz45_2 := blk_frozen BK806.out 2; have hfz45_3 := blk_frozen BK806.out 3; have hfz45_4 := blk_frozen BK806.out 4))
      obtain ⟨w46, hW_⟩ : ∃ q, q = (((((w41.setCell ⟨gb806, 0, none⟩ (.int .i64 t800)).setCell ⟨gb806, 1, none⟩ (.int .i64 t801)).setCell ⟨gb806, 2, none⟩ (.int .i64 t802)).setCell ⟨gb806, 3, none⟩ (.int .i64 t803)).setCell ⟨gb806, 4, none⟩ (.string t804)) := ⟨_, rfl⟩
      have n0_ : Aside0 (w46.heap[gb789]? = some (.cells #[.slice A0_0 l0_0.length c0_0, .slice A0_1 l0_1.length c0_1] 32 (0, 0))) := ⟨by rw [hW_]; exact zfar (zfar (zfar (zfar (zfar (zb BK789) NB789_806) NB789_806) NB789_806) NB789_806) NB789_806⟩
      have n1_ : Aside0 (w46.heap[gb790]? = some (.cells #[.slice none 0 0, .slice none 0 0] 32 (0, 0))) := ⟨by rw [hW_]; exact zfar (zfar (zfar (zfar (zfar (zb BK790) NB790_806) NB790_806) NB790_806) NB790_806) NB790_806⟩
      have n2_ : Aside0 (w46.heap[gb799]? = some (.cells #[.int .i64 t793, .int .i64 t794, .int .i64 t795, .int .i64 t796, .string t797] 66 (0, 0))) := ⟨by rw [hW_]; exact zfar (zfar (zfar (zfar (zfar (zb BK799) NB799_806) NB799_806) NB799_806) NB799_806) NB799_806⟩
      have n3_ : Aside0 (w46.heap[gb806]? = some (.cells #[.int .i64 t800, .int .i64 t801, .int .i64 t802, .int .i64 t803, .string t804] 66 (0, 0))) := ⟨by rw [hW_]; exact zput (zput (zput (zput (zput (zb BK806) 0) 1) 2) 3) 4⟩
      have n4_ : Aside0 (Below w.heap.size w w46) := ⟨by rw [hW_]; exact zB⟩
      rw [← hW_]
      clear hW_
      (try clear BK789)
      (try clear BK790)
      (try clear BK799)
      (try clear BK806)
      (try clear HB)
      have BK789 := n0_
      have BK790 := n1_
      have BK799 := n2_
      have BK806 := n3_
      have HB := n4_
      clear n0_ n1_ n2_ n3_ n4_
      replace BK789 := zm (blk_drew BK789.out)
      replace BK790 := zm (blk_drew BK790.out)
      replace BK799 := zm (blk_drew BK799.out)
      replace BK806 := zm (blk_drew BK806.out)
      replace HB := zm (below_drew1 HB.out)
      refine start_ (n := 7) (S := fun w' => w'.cell? ⟨gb806, 0, none⟩ = some (.int .i64 t800) ∧ w'.cell? ⟨gb806, 1, none⟩ = some (.int .i64 t801) ∧ w'.cell? ⟨gb806, 2, none⟩ = some (.int .i64 t802) ∧ w'.cell? ⟨gb806, 3, none⟩ = some (.int .i64 t803) ∧ w'.cell? ⟨gb806, 4, none⟩ = some (.string t804) ∧ w'.cell? ⟨gb789, 0, none⟩ = some (.slice A0_0 l0_0.length c0_0) ∧ w'.cell? ⟨gb789, 1, none⟩ = some (.slice A0_1 l0_1.length c0_1)) (ds := []) (zl 7 0) (by kernel_rfl) rfl rfl ⟨(blk_cell BK806.out 0).trans rfl, (blk_cell BK806.out 1).trans rfl, (blk_cell BK806.out 2).trans rfl, (blk_cell BK806.out 3).trans rfl, (blk_cell BK806.out 4).trans rfl, (blk_cell BK789.out 0).trans rfl, (blk_cell BK789.out 1).trans rfl⟩ (fun hHeld => ?_)
      generalize w46.drew = w47 at BK789 BK790 BK799 BK806 HB hHeld ⊢
      refine zp 0 (some 34) (zl 7 1) ?_
      refine zp 3 (some 37) (zl 7 9) ?_
      refine zt 1 (some 35) (zl 7 11) ?_
      refine zt 2 (some 36) (zl 7 15) ?_
      refine zo 4 (some 38) (zl 7 31) (fun K hK => ?_)
      refine zgo #[.agg #[.slice A0_0 l0_0.length c0_0, .slice A0_1 l0_1.length c0_1], .int .i64 a1] Try.func76 ?_
      with_reducible refine (spec_FloorOf.calls kj2 _ _ l0_0 _ _ l0_1 a1 t807 _ (zk (Kd.C_below HR0_0.out HB.out)) HC0_0.out (zk (Kd.C_below HR0_1.out HB.out)) HC0_1.out A29.out).mono ?_
      rintro e w48 ⟨rfl, hb⟩
      refine ⟨_, rfl, ?_⟩
      replace BK789 := zm (blk_below (zb BK789) hb)
      replace BK790 := zm (blk_below (zb BK790) hb)
      replace BK799 := zm (blk_below (zb BK799) hb)
      replace BK806 := zm (blk_below (zb BK806) hb)
      replace HB := zm (below_step zB hb)
      (try clear hb)
      (try clear hb2)
      (try clear hk)
      (try clear hi)
      refine hK.out _ _ ⟨(blk_cell BK806.out 0).trans rfl, (blk_cell BK806.out 1).trans rfl, (blk_cell BK806.out 2).trans rfl, (blk_cell BK806.out 3).trans rfl, (blk_cell BK806.out 4).trans rfl, (blk_cell BK789.out 0).trans rfl, (blk_cell BK789.out 1).trans rfl⟩ (fun hHeld => ?_)
      clear hK K
      refine zn ?_
      refine zo 5 (some 39) (zl 7 63) (fun K hK => ?_)
      refine zgo #[.int .i64 t800, .int .i64 t807] Try.func75 ?_
      with_reducible refine (spec_l1Max.calls t800 t807 t808 _ A30.out).mono ?_
      rintro e w' ⟨rfl, ⟨nd, rfl⟩⟩
      refine ⟨_, rfl, ?_⟩
      refine hK.out _ _ ⟨(blk_cell BK806.out 0).trans rfl, (blk_cell BK806.out 1).trans rfl, (blk_cell BK806.out 2).trans rfl, (blk_cell BK806.out 3).trans rfl, (blk_cell BK806.out 4).trans rfl, (blk_cell BK789.out 0).trans rfl, (blk_cell BK789.out 1).trans rfl⟩ (fun hHeld => ?_)
      clear hK K
      refine zn ?_
      refine zp 6 (some 10) (zl 7 127) ?_
      refine done_ (by kernel_rfl) ?_
      have hcz49_0 : w48.cell? ⟨gb790, 0, none⟩ = some (.slice none 0 0) := (blk_cell BK790.out 0).trans rfl
      have hcz49_1 : w48.cell? ⟨gb790, 1, none⟩ = some (.slice none 0 0) := (blk_cell BK790.out 1).trans rfl
      have hfz49_0 := blk_frozen BK790.out 0
      have hfz49_1 := blk_frozen BK790.out 1
      try go_wp2
      refine bodyPost_ret (results_ct rfl _ _ gb790 32 #[.slice none 0 0, .slice none 0 0] (0, 0) _ rfl (zput (zput (zb BK790) 0) 1) Try.underlying32 rfl (by kernel_rfl)) rfl ?_
      exact ⟨_, _, zE, by first | exact Kd.R_nil _ _ _ _ _ | exact Kd.N_nil _ _ _ _ _ | exact Kd.V_nil _ _ _ _ _ | exact Kd.Q_nil _ _ _ _ _ | exact Kd.S_nil _ _ _ _ _, by first | exact Kd.R_nil _ _ _ _ _ | exact Kd.N_nil _ _ _ _ _ | exact Kd.V_nil _ _ _ _ _ | exact Kd.Q_nil _ _ _ _ _ | exact Kd.S_nil _ _ _ _ _, zB⟩
     ·rw [if_neg c31] at H
      have c31b0 : (t808 == 1000) = false := beq_eq_false_iff_ne.mpr c31
      have c31b1 : (t808 != 1000) = true := bne_iff_ne.mpr c31
      replace H := Option.bind_eq_some_iff.mp H
      obtain ⟨⟨t809, t812, t815⟩, A500, H⟩ := H
      replace H : (some (t809, t812, t815)) = some (r1, r2, r3) := H
      have A50 := zm A500
      clear A500
      simp only [Option.some.injEq, Prod.mk.injEq] at H
      obtain ⟨rfl, rfl, rfl⟩ := H
      have hnb51 := NB789_790.out
      have hnc51 := NB790_789.out
      have hcz52_0 : wc.cell? ⟨gb789, 0, none⟩ = some (.slice A0_0 l0_0.length c0_0) := (blk_cell BK789.out 0).trans rfl
      have hcz52_1 : wc.cell? ⟨gb789, 1, none⟩ = some (.slice A0_1 l0_1.length c0_1) := (blk_cell BK789.out 1).trans rfl
      have hfz52_0 := blk_frozen BK789.out 0
      have hfz52_1 := blk_frozen BK789.out 1
      try go_wp2_with (first | ((with_reducible refine gate_callee (f := 73) rfl ?_); refine zg (some 23) #[.agg #[.slice A0_0 l0_0.length c0_0, .slice A0_1 l0_1.length c0_1], .int .i64 a1] Try.func73 ?_; (with_reducible refine (spec_Lookup.calls kj2 _ _ l0_0 _ _ l0_1 a1 t793 t794 t795 t796 t797 false _ (zk (Kd.C_below HR0_0.out HB.out)) HC0_0.out (zk (Kd.C_below HR0_1.out HB.out)) HC0_1.out A18.out).mono ?_); rintro e w53 ⟨rfl, hb⟩; refine ⟨_, rfl, ?_⟩; replace BK789 := zm (blk_below (zb BK789) hb); replace BK790 := zm (blk_below (zb BK790) hb); replace HB := zm (below_step zB hb); clear hb) | ((with_reducible refine gate_dst (N := 6) rfl ?_); refine zbox 6 #[.int .i64 0, .int .i64 0, .int .i64 0, .int .i64 0, .string (⟨#[]⟩ : ByteArray)] 66 ?_; intro gb799 hg w54 hbox hb; have BK799 := zm (hbox); have GW799 := zge w hg zB; have GE799 := zge w hg zB; replace HB := zm (below_step zB hb); have NB789_799 := zlt hg (zb BK789); have NB799_789 := zgt hg (zb BK789); replace BK789 := zm (blk_below (zb BK789) hb); have NB790_799 := zlt hg (zb BK790); have NB799_790 := zgt hg (zb BK790); replace BK790 := zm (blk_below (zb BK790) hb); clear hb hbox hg; have hnb55 := NB799_789.out; have hnc55 := NB789_799.out; have hnb56 := NB799_790.out; have hnc56 := NB790_799.out; have hcz57_0 : w54.cell? ⟨gb799, 0, none⟩ = some (.int .i64 0) := (blk_cell BK799.out 0).trans rfl; have hcz57_1 : w54.cell? ⟨gb799, 1, none⟩ = some (.int .i64 0) := (blk_cell BK799.out 1).trans rfl; have hcz57_2 : w54.cell? ⟨gb799, 2, none⟩ = some (.int .i64 0) := (blk_cell BK799.out 2).trans rfl; have hcz57_3 : w54.cell? ⟨gb799, 3, none⟩ = some (.int .i64 0) := (blk_cell BK799.out 3).trans rfl; have hcz57_4 : w54.cell? ⟨gb799, 4, none⟩ = some (.string (⟨#[]⟩ : ByteArray)) := (blk_cell BK799.out 4).trans rfl; have hfz57_0 := blk_frozen BK799.out 0; have hfz57_1 := blk_frozen BK799.out 1; have hfz57_2 := blk_frozen BK799.out 2; have hfz57_3 := blk_frozen BK799.out 3; have hfz57_4 := blk_frozen BK799.out 4; have hcz58_0 : w54.cell? ⟨gb789, 0, none⟩ = some (.slice A0_0 l0_0.length c0_0) := (blk_cell BK789.out 0).trans rfl; have hcz58_1 : w54.cell? ⟨gb789, 1, none⟩ = some (.slice A0_1 l0_1.length c0_1) := (blk_cell BK789.out 1).trans rfl; have hfz58_0 := blk_frozen BK789.out 0; have hfz58_1 := blk_frozen BK789.out 1) | ((with_reducible refine gate_callee (f := 74) rfl ?_); refine zg (some 31) #[.agg #[.slice A0_0 l0_0.length c0_0, .slice A0_1 l0_1.length c0_1], .int .i64 a1] Try.func74 ?_; (with_reducible refine (spec_EntryOf.calls kj2 _ _ l0_0 _ _ l0_1 a1 t800 t801 t802 t803 t804 t805 _ ?side1 HC0_0.out ?side3 HC0_1.out A28.out).mono ?_); (case side1 => exact Kd.C_below HR0_0.out zB); (case side3 => exact Kd.C_below HR0_1.out zB); rintro e w59 ⟨rfl, hb⟩; refine ⟨_, rfl, ?_⟩; replace BK789 := zm (blk_below (g := gb789) (o := .cells #[.slice A0_0 l0_0.length c0_0, .slice A0_1 l0_1.length c0_1] 32 (0, 0)) (zfar (zfar (zfar (zfar (zfar (zb BK789) NB789_799) NB789_799) NB789_799) NB789_799) NB789_799) hb); replace BK790 := zm (blk_below (g := gb790) (o := .cells #[.slice none 0 0, .slice none 0 0] 32 (0, 0)) (zfar (zfar (zfar (zfar (zfar (zb BK790) NB790_799) NB790_799) NB790_799) NB790_799) NB790_799) hb); replace BK799 := zm (blk_below (g := gb799) (o := .cells #[.int .i64 t793, .int .i64 t794, .int .i64 t795, .int .i64 t796, .string t797] 66 (0, 0)) (zput (zput (zput (zput (zput (zb BK799) 0) 1) 2) 3) 4) hb); replace HB := zm (below_step zB hb); clear hb) | ((with_reducible refine gate_dst (N := 8) rfl ?_); refine zbox 8 #[.int .i64 0, .int .i64 0, .int .i64 0, .int .i64 0, .string (⟨#[]⟩ : ByteArray)] 66 ?_; intro gb806 hg w60 hbox hb; have BK806 := zm (hbox); have GW806 := zge w hg zB; have GE806 := zge w hg zB; replace HB := zm (below_step zB hb); have NB789_806 := zlt hg (zb BK789); have NB806_789 := zgt hg (zb BK789); replace BK789 := zm (blk_below (zb BK789) hb); have NB790_806 := zlt hg (zb BK790); have NB806_790 := zgt hg (zb BK790); replace BK790 := zm (blk_below (zb BK790) hb); have NB799_806 := zlt hg (zb BK799); have NB806_799 := zgt hg (zb BK799); replace BK799 := zm (blk_below (zb BK799) hb); clear hb hbox hg; have hnb61 := NB806_789.out; have hnc61 := NB789_806.out; have hnb62 := NB806_790.out; have hnc62 := NB790_806.out; have hnb63 := NB806_799.out; have hnc63 := NB799_806.out; have hcz64_0 : w60.cell? ⟨gb806, 0, none⟩ = some (.int .i64 0) := (blk_cell BK806.out 0).trans rfl; have hcz64_1 : w60.cell? ⟨gb806, 1, none⟩ = some (.int .i64 0) := (blk_cell BK806.out 1).trans rfl; have hcz64_2 : w60.cell? ⟨gb806, 2, none⟩ = some (.int .i64 0) := (blk_cell BK806.out 2).trans rfl; have hcz64_3 : w60.cell? ⟨gb806, 3, none⟩ = some (.int .i64 0) := (blk_cell BK806.out 3).trans rfl; have hcz64_4 : w60.cell? ⟨gb806, 4, none⟩ = some (.string (⟨#[]⟩ : ByteArray)) := (blk_cell BK806.out 4).trans rfl; have hfz64_0 := blk_frozen BK806.out 0; have hfz64_1 := blk_frozen BK806.out 1; have hfz64_2 := blk_frozen BK806.out 2; have hfz64_3 := blk_frozen BK806.out 3; have hfz64_4 := blk_frozen BK806.out 4))
      obtain ⟨w65, hW_⟩ : ∃ q, q = (((((w60.setCell ⟨gb806, 0, none⟩ (.int .i64 t800)).setCell ⟨gb806, 1, none⟩ (.int .i64 t801)).setCell ⟨gb806, 2, none⟩ (.int .i64 t802)).setCell ⟨gb806, 3, none⟩ (.int .i64 t803)).setCell ⟨gb806, 4, none⟩ (.string t804)) := ⟨_, rfl⟩
      have n0_ : Aside0 (w65.heap[gb789]? = some (.cells #[.slice A0_0 l0_0.length c0_0, .slice A0_1 l0_1.length c0_1] 32 (0, 0))) := ⟨by rw [hW_]; exact zfar (zfar (zfar (zfar (zfar (zb BK789) NB789_806) NB789_806) NB789_806) NB789_806) NB789_806⟩
      have n1_ : Aside0 (w65.heap[gb790]? = some (.cells #[.slice none 0 0, .slice none 0 0] 32 (0, 0))) := ⟨by rw [hW_]; exact zfar (zfar (zfar (zfar (zfar (zb BK790) NB790_806) NB790_806) NB790_806) NB790_806) NB790_806⟩
      have n2_ : Aside0 (w65.heap[gb799]? = some (.cells #[.int .i64 t793, .int .i64 t794, .int .i64 t795, .int .i64 t796, .string t797] 66 (0, 0))) := ⟨by rw [hW_]; exact zfar (zfar (zfar (zfar (zfar (zb BK799) NB799_806) NB799_806) NB799_806) NB799_806) NB799_806⟩
      have n3_ : Aside0 (w65.heap[gb806]? = some (.cells #[.int .i64 t800, .int .i64 t801, .int .i64 t802, .int .i64 t803, .string t804] 66 (0, 0))) := ⟨by rw [hW_]; exact zput (zput (zput (zput (zput (zb BK806) 0) 1) 2) 3) 4⟩
      have n4_ : Aside0 (Below w.heap.size w w65) := ⟨by rw [hW_]; exact zB⟩
      rw [← hW_]
      clear hW_
      (try clear BK789)
      (try clear BK790)
      (try clear BK799)
      (try clear BK806)
      (try clear HB)
      have BK789 := n0_
      have BK790 := n1_
      have BK799 := n2_
      have BK806 := n3_
      have HB := n4_
      clear n0_ n1_ n2_ n3_ n4_
      replace BK789 := zm (blk_drew BK789.out)
      replace BK790 := zm (blk_drew BK790.out)
      replace BK799 := zm (blk_drew BK799.out)
      replace BK806 := zm (blk_drew BK806.out)
      replace HB := zm (below_drew1 HB.out)
      refine start_ (n := 7) (S := fun w' => w'.cell? ⟨gb806, 0, none⟩ = some (.int .i64 t800) ∧ w'.cell? ⟨gb806, 1, none⟩ = some (.int .i64 t801) ∧ w'.cell? ⟨gb806, 2, none⟩ = some (.int .i64 t802) ∧ w'.cell? ⟨gb806, 3, none⟩ = some (.int .i64 t803) ∧ w'.cell? ⟨gb806, 4, none⟩ = some (.string t804) ∧ w'.cell? ⟨gb789, 0, none⟩ = some (.slice A0_0 l0_0.length c0_0) ∧ w'.cell? ⟨gb789, 1, none⟩ = some (.slice A0_1 l0_1.length c0_1)) (ds := []) (zl 7 0) (by kernel_rfl) rfl rfl ⟨(blk_cell BK806.out 0).trans rfl, (blk_cell BK806.out 1).trans rfl, (blk_cell BK806.out 2).trans rfl, (blk_cell BK806.out 3).trans rfl, (blk_cell BK806.out 4).trans rfl, (blk_cell BK789.out 0).trans rfl, (blk_cell BK789.out 1).trans rfl⟩ (fun hHeld => ?_)
      generalize w65.drew = w66 at BK789 BK790 BK799 BK806 HB hHeld ⊢
      refine zp 0 (some 34) (zl 7 1) ?_
      refine zp 3 (some 37) (zl 7 9) ?_
      refine zt 1 (some 35) (zl 7 11) ?_
      refine zt 2 (some 36) (zl 7 15) ?_
      refine zo 4 (some 38) (zl 7 31) (fun K hK => ?_)
      refine zgo #[.agg #[.slice A0_0 l0_0.length c0_0, .slice A0_1 l0_1.length c0_1], .int .i64 a1] Try.func76 ?_
      with_reducible refine (spec_FloorOf.calls kj2 _ _ l0_0 _ _ l0_1 a1 t807 _ (zk (Kd.C_below HR0_0.out HB.out)) HC0_0.out (zk (Kd.C_below HR0_1.out HB.out)) HC0_1.out A29.out).mono ?_
      rintro e w67 ⟨rfl, hb⟩
      refine ⟨_, rfl, ?_⟩
      replace BK789 := zm (blk_below (zb BK789) hb)
      replace BK790 := zm (blk_below (zb BK790) hb)
      replace BK799 := zm (blk_below (zb BK799) hb)
      replace BK806 := zm (blk_below (zb BK806) hb)
      replace HB := zm (below_step zB hb)
      (try clear hb)
      (try clear hb2)
      (try clear hk)
      (try clear hi)
      refine hK.out _ _ ⟨(blk_cell BK806.out 0).trans rfl, (blk_cell BK806.out 1).trans rfl, (blk_cell BK806.out 2).trans rfl, (blk_cell BK806.out 3).trans rfl, (blk_cell BK806.out 4).trans rfl, (blk_cell BK789.out 0).trans rfl, (blk_cell BK789.out 1).trans rfl⟩ (fun hHeld => ?_)
      clear hK K
      refine zn ?_
      refine zo 5 (some 39) (zl 7 63) (fun K hK => ?_)
      refine zgo #[.int .i64 t800, .int .i64 t807] Try.func75 ?_
      with_reducible refine (spec_l1Max.calls t800 t807 t808 _ A30.out).mono ?_
      rintro e w' ⟨rfl, ⟨nd, rfl⟩⟩
      refine ⟨_, rfl, ?_⟩
      refine hK.out _ _ ⟨(blk_cell BK806.out 0).trans rfl, (blk_cell BK806.out 1).trans rfl, (blk_cell BK806.out 2).trans rfl, (blk_cell BK806.out 3).trans rfl, (blk_cell BK806.out 4).trans rfl, (blk_cell BK789.out 0).trans rfl, (blk_cell BK789.out 1).trans rfl⟩ (fun hHeld => ?_)
      clear hK K
      refine zn ?_
      refine zp 6 (some 10) (zl 7 127) ?_
      refine done_ (by kernel_rfl) ?_
      try go_wp2_with (first | ((with_reducible refine gate_callee (f := 67) rfl ?_); refine zg (some 47) #[.int .i64 a1, .agg #[.int .i64 (wrap64 (t808 + 1)), .int .i64 0, .int .i64 0, .int .i64 0, .string (⟨#[]⟩ : ByteArray)]] Try.func67 ?_; (with_reducible refine (spec_l5One.calls kj2 a1 (wrap64 (t808 + 1)) 0 0 0 (⟨#[]⟩ : ByteArray) t809 t812 t815 _ A50.out).mono ?_); rintro e w68 ⟨v810, v813, rfl, ho0, ho1, hb⟩; refine ⟨_, rfl, ?_⟩; have HO811 := zm (Kd.R_lower ho0 (below_size zB)); have HO814 := zm (Kd.R_lower ho1 (below_size zB)); replace BK789 := zm (blk_below (zb BK789) hb); replace BK790 := zm (blk_below (zb BK790) hb); replace BK799 := zm (blk_below (zb BK799) hb); replace BK806 := zm (blk_below (zb BK806) hb); replace HB := zm (below_step zB hb); clear hb ho0 ho1; obtain ⟨Ao69, co69, eo69⟩ := Kd.R_slice HO811.out; subst eo69; have hcz70_0 : w68.cell? ⟨gb790, 0, none⟩ = some (.slice none 0 0) := (blk_cell BK790.out 0).trans rfl; have hcz70_1 : w68.cell? ⟨gb790, 1, none⟩ = some (.slice none 0 0) := (blk_cell BK790.out 1).trans rfl; have hfz70_0 := blk_frozen BK790.out 0; have hfz70_1 := blk_frozen BK790.out 1; obtain ⟨Ao71, co71, eo71⟩ := Kd.R_slice HO814.out; subst eo71))
      refine bodyPost_ret (results_ct rfl _ _ gb790 32 #[.slice Ao69 t809.length co69, .slice Ao71 t812.length co71] (0, 0) _ rfl (zput (zput (zb BK790) 0) 1) Try.underlying32 rfl (by kernel_rfl)) rfl ?_
      exact ⟨_, _, zE, zrs <| Kd.R_mono (zfr (zfr (Kd.R_types HO811.out BK790.out (by decide)))) (fun _ hk => trivial), zrs <| Kd.R_mono (zfr (zfr (Kd.R_types HO814.out BK790.out (by decide)))) (fun _ hk => trivial), zB⟩

end Go.Proofs.Ytgapdegniepjiaa.P
