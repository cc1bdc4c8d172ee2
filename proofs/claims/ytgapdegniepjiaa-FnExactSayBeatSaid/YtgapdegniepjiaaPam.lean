-- by a program of this session, for this seat
import Derived.Test.YtgapdegniepjiaaZ
import Derived.Test.YtgapdegniepjiaaP0
import Derived.Test.YtgapdegniepjiaaPal
import Derived.Test.YtgapdegniepjiaaPag
namespace Go.Proofs.Ytgapdegniepjiaa.P
open Go.RowKit Go.Proofs.YtgapdegniepjiaaW.PrintWords Go.Proofs.YtgapdegniepjiaaW.PrintLast Go.Proofs.YtgapdegniepjiaaW.PrintMore Go.Proofs.Ytgapdegniepjiaa.Z
attribute [local go_sem] max2_int min2_int max_two min_two max_three min_three max_four min_four   -- for this text's walks alone
set_option linter.unusedVariables false
set_option linter.unusedSimpArgs false

/-! ### impl_saying: function 69 -/
def impl_saying.f (a0 : Int) (a1_0 : Int) (a1_1 : Int) (a1_2 : Int) (a1_3 : Int) (a1_4 : ByteArray) : Option ((List (S68)) × (List (S72)) × Int) := some ((([(⟨a0, (⟨a1_0, a1_1, a1_2, a1_3, a1_4⟩ : S66)⟩ : S68)] : List (S68))), ([] : List (S72)), 0)
set_option maxHeartbeats 8000000 in
set_option maxRecDepth 100000 in
theorem impl_saying.calls (a0 : Int) (a1_0 : Int) (a1_1 : Int) (a1_2 : Int) (a1_3 : Int) (a1_4 : ByteArray) (r1 : List (S68)) (r2 : List (S72)) (r3 : Int) (w : World) (h : impl_saying.f a0 a1_0 a1_1 a1_2 a1_3 a1_4 = some (r1, r2, r3)) :
  Calls Try.prog 69 #[.int .i64 a0, .agg #[.int .i64 a1_0, .int .i64 a1_1, .int .i64 a1_2, .int .i64 a1_3, .string a1_4]] w fun e w' => ∃ v0_ v1_ : Value, e = .returned (.tuple #[.agg #[v0_, v1_], .int .i64 r3]) ∧ Kd.R k68 68 w' w.heap.size (fun _ => True) v0_ r1 ∧ Kd.R k72 72 w' w.heap.size (fun _ => True) v1_ r2 ∧ Below w.heap.size w w' := by
 have hu66 := Try.underlying66
 have hu32 := Try.underlying32
 have hu68 := Try.underlying68
 have HB := zm (Below.refl w.heap.size w)
 have H : (some ((([(⟨a0, (⟨a1_0, a1_1, a1_2, a1_3, a1_4⟩ : S66)⟩ : S68)] : List (S68))), ([] : List (S72)), 0)) = some (r1, r2, r3) := h
 clear h
 obtain ⟨y505, hy505⟩ : ∃ y_ : List (S68), y_ = (([(⟨a0, (⟨a1_0, a1_1, a1_2, a1_3, a1_4⟩ : S66)⟩ : S68)] : List (S68))) := ⟨_, rfl⟩
 replace H : (some (y505, ([] : List (S72)), 0)) = some (r1, r2, r3) := by first | (rw [hy505]; with_reducible exact H) | (have H2_ := (Option.bind_some _ _).symm.trans H; rw [hy505]; with_reducible exact H2_) | (have H2_ := (Option.bind_some _ _).symm.trans H; with_reducible exact H2_) | with_reducible exact H | (rw [hy505]; exact H) | exact H
 have Ny505 := zm hy505
 clear hy505
 simp only [Option.some.injEq, Prod.mk.injEq] at H
 obtain ⟨rfl, rfl, rfl⟩ := H
 go_enter Try.func69, Try.ntmps69
 go_wp2_with (first | ((with_reducible refine gate_dst (N := 3) rfl ?_); refine zbox 3 #[.int .i64 a1_0, .int .i64 a1_1, .int .i64 a1_2, .int .i64 a1_3, .string a1_4] 66 ?_; intro gb503 hg w3 hbox hb; have BK503 := zm (hbox); have GW503 := zge w hg zB; have GE503 := zge w hg zB; replace HB := zm (below_step zB hb); clear hb hbox hg) | ((with_reducible refine gate_dst (N := 4) rfl ?_); refine zbox 4 #[.slice none 0 0, .slice none 0 0] 32 ?_; intro gb504 hg w4 hbox hb; have BK504 := zm (hbox); have GW504 := zge w hg zB; have GE504 := zge w hg zB; replace HB := zm (below_step zB hb); have NB503_504 := zlt hg (zb BK503); have NB504_503 := zgt hg (zb BK503); replace BK503 := zm (blk_below (zb BK503) hb); clear hb hbox hg; have hnb5 := NB503_504.out; have hnc5 := NB504_503.out; have hcz6_0 : w4.cell? ⟨gb503, 0, none⟩ = some (.int .i64 a1_0) := (blk_cell BK503.out 0).trans rfl; have hcz6_1 : w4.cell? ⟨gb503, 1, none⟩ = some (.int .i64 a1_1) := (blk_cell BK503.out 1).trans rfl; have hcz6_2 : w4.cell? ⟨gb503, 2, none⟩ = some (.int .i64 a1_2) := (blk_cell BK503.out 2).trans rfl; have hcz6_3 : w4.cell? ⟨gb503, 3, none⟩ = some (.int .i64 a1_3) := (blk_cell BK503.out 3).trans rfl; have hcz6_4 : w4.cell? ⟨gb503, 4, none⟩ = some (.string a1_4) := (blk_cell BK503.out 4).trans rfl; have hfz6_0 := blk_frozen BK503.out 0; have hfz6_1 := blk_frozen BK503.out 1; have hfz6_2 := blk_frozen BK503.out 2; have hfz6_3 := blk_frozen BK503.out 3; have hfz6_4 := blk_frozen BK503.out 4) | ((with_reducible refine gate_dst (N := 9) rfl ?_); refine Kd.R_lit k68 _ 68 ?hg (N := 9) ?hd (xs := ([(⟨a0, (⟨a1_0, a1_1, a1_2, a1_3, a1_4⟩ : S66)⟩ : S68)] : List (S68))) (inner := [.int .i64 a0, .int .i64 a1_0, .int .i64 a1_1, .int .i64 a1_2, .int .i64 a1_3, .string a1_4]) (ok := fun _ => True) (okp := fun _ => True) ?hr ?hp (fun _ hk => hk) trivial (Below.refl _ _) (Nat.le_refl _) (by simp) ?_; (case hd => rfl); (case hg => rfl); (case hr => first | (go_simp; done) | (go_simp; rfl)); (case hp => exact (Reps.c6 (show Kd.M k68 _ _ _ (⟨a0, (⟨a1_0, a1_1, a1_2, a1_3, a1_4⟩ : S66)⟩ : S68) [.int .i64 a0, .int .i64 a1_0, .int .i64 a1_1, .int .i64 a1_2, .int .i64 a1_3, .string a1_4] from (k68_mkM _ _ _ (⟨a0, (⟨a1_0, a1_1, a1_2, a1_3, a1_4⟩ : S66)⟩ : S68) )) (Reps.none _ _))); intro v506 w7 ho8 hb hg_ hnew_; clear hg_ hnew_; (first | rw [← Ny505.out] at ho8 | (simp only [Int.reduceToNat] at ho8; rw [← Ny505.out] at ho8)); have HO507 := zm (Kd.R_lower ho8 (below_size zB)); replace BK503 := zm (blk_below (zb BK503) hb); replace BK504 := zm (blk_below (zb BK504) hb); replace HB := zm (below_step zB hb); clear hb ho8; obtain ⟨Ao9, co9, eo9⟩ := Kd.R_slice HO507.out; subst eo9; have hcz10_0 : w7.cell? ⟨gb504, 0, none⟩ = some (.slice none 0 0) := (blk_cell BK504.out 0).trans rfl; have hcz10_1 : w7.cell? ⟨gb504, 1, none⟩ = some (.slice none 0 0) := (blk_cell BK504.out 1).trans rfl; have hfz10_0 := blk_frozen BK504.out 0; have hfz10_1 := blk_frozen BK504.out 1))
 refine bodyPost_ret (results_ct rfl _ _ gb504 32 #[.slice Ao9 y505.length co9, .slice none 0 0] (0, 0) _ rfl (zput (zput (zb BK504) 0) 1) Try.underlying32 rfl (by kernel_rfl)) rfl ?_
 exact ⟨_, _, zE, zrs <| Kd.R_mono (zfr (zfr (Kd.R_types HO507.out BK504.out (by decide)))) (fun _ hk => trivial), by first | exact Kd.R_nil _ _ _ _ _ | exact Kd.N_nil _ _ _ _ _ | exact Kd.V_nil _ _ _ _ _ | exact Kd.Q_nil _ _ _ _ _ | exact Kd.S_nil _ _ _ _ _, zB⟩

/-! ### impl_SayGone: function 25 -/
def impl_SayGone.f (k : Nat) (l0_0 : List (S68)) (l0_1 : List (S72)) (a1 : Int) : Option ((List (S68)) × (List (S72)) × Int) := (impl_present.f k l0_0 l0_1 a1).bind fun bt510 => (if bt510.2.2.2.2.2 = 0 then ((impl_saying.f a1 bt510.1 1 bt510.2.2.1 bt510.2.2.2.1 bt510.2.2.2.2.1).bind fun bt517 => (some (bt517.1, bt517.2.1, bt517.2.2))) else (some (([] : List (S68)), ([] : List (S72)), bt510.2.2.2.2.2)))
theorem impl_SayGone.mono : ∀ a0 a1 a2 k, LeO (impl_SayGone.f k a0 a1 a2) (impl_SayGone.f (k + 1) a0 a1 a2) := by
 intro a0 a1 a2 k
 unfold impl_SayGone.f
 repeat' first
   | (with_reducible exact impl_present.mono _ _ _ _)
   | (with_reducible exact LeO.refl _)
   | (with_reducible exact LeO.none _)
   | (with_reducible refine LeO.ite ?_ ?_)
   | (with_reducible refine LeO.bind ?_ (fun _ => ?_))
   | exact impl_present.mono _ _ _ _
   | exact LeO.none _
   | refine LeO.ite ?_ ?_
   | refine LeO.bind ?_ (fun _ => ?_)
set_option maxHeartbeats 8000000 in
set_option maxRecDepth 100000 in
theorem impl_SayGone.calls (k : Nat) (A0_0 : Option Addr) (c0_0 : Nat) (l0_0 : List (S68)) (A0_1 : Option Addr) (c0_1 : Nat) (l0_1 : List (S72)) (a1 : Int) (r1 : List (S68)) (r2 : List (S72)) (r3 : Int) (w : World) (hr0_0 : Kd.C k68 w A0_0 l0_0.length l0_0) (hc0_0 : l0_0.length ≤ c0_0) (hr0_1 : Kd.C k72 w A0_1 l0_1.length l0_1) (hc0_1 : l0_1.length ≤ c0_1) (h : impl_SayGone.f k l0_0 l0_1 a1 = some (r1, r2, r3)) :
  Calls Try.prog 25 #[.agg #[.slice A0_0 l0_0.length c0_0, .slice A0_1 l0_1.length c0_1], .int .i64 a1] w fun e w' => ∃ v0_ v1_ : Value, e = .returned (.tuple #[.agg #[v0_, v1_], .int .i64 r3]) ∧ Kd.R k68 68 w' w.heap.size (fun _ => True) v0_ r1 ∧ Kd.R k72 72 w' w.heap.size (fun _ => True) v1_ r2 ∧ Below w.heap.size w w' := by
 have hu32 := Try.underlying32
 have hu66 := Try.underlying66
 have HR0_0 := zm hr0_0
 have HC0_0 := zm hc0_0
 clear hr0_0 hc0_0
 have HR0_1 := zm hr0_1
 have HC0_1 := zm hc0_1
 clear hr0_1 hc0_1
 have HB := zm (Below.refl w.heap.size w)
 have H : ((impl_present.f k l0_0 l0_1 a1).bind fun bt510 => (if bt510.2.2.2.2.2 = 0 then ((impl_saying.f a1 bt510.1 1 bt510.2.2.1 bt510.2.2.2.1 bt510.2.2.2.2.1).bind fun bt517 => (some (bt517.1, bt517.2.1, bt517.2.2))) else (some (([] : List (S68)), ([] : List (S72)), bt510.2.2.2.2.2)))) = some (r1, r2, r3) := h
 clear h
 replace H := Option.bind_eq_some_iff.mp H
 obtain ⟨⟨t510, t511, t512, t513, t514, t515⟩, A30, H⟩ := H
 replace H : (if t515 = 0 then ((impl_saying.f a1 t510 1 t512 t513 t514).bind fun bt517 => (some (bt517.1, bt517.2.1, bt517.2.2))) else (some (([] : List (S68)), ([] : List (S72)), t515))) = some (r1, r2, r3) := H
 have A3 := zm A30
 clear A30
 by_cases c4 : t515 = 0
 ·rw [if_pos c4] at H
  have c4b0 : (t515 == 0) = true := beq_iff_eq.mpr c4
  have c4b1 : (t515 != 0) = false := bne_eq_false_iff_eq.mpr c4
  clear c4
  replace H := Option.bind_eq_some_iff.mp H
  obtain ⟨⟨t517, t520, t523⟩, A50, H⟩ := H
  replace H : (some (t517, t520, t523)) = some (r1, r2, r3) := H
  have A5 := zm A50
  clear A50
  simp only [Option.some.injEq, Prod.mk.injEq] at H
  obtain ⟨rfl, rfl, rfl⟩ := H
  go_enter Try.func25, Try.ntmps25
  go_wp2_with (first | ((with_reducible refine gate_dst (N := 2) rfl ?_); refine zbox 2 #[.slice A0_0 l0_0.length c0_0, .slice A0_1 l0_1.length c0_1] 32 ?_; intro gb508 hg w6 hbox hb; have BK508 := zm (hbox); have GW508 := zge w hg zB; have GE508 := zge w hg zB; replace HB := zm (below_step zB hb); clear hb hbox hg) | ((with_reducible refine gate_dst (N := 4) rfl ?_); refine zbox 4 #[.slice none 0 0, .slice none 0 0] 32 ?_; intro gb509 hg w7 hbox hb; have BK509 := zm (hbox); have GW509 := zge w hg zB; have GE509 := zge w hg zB; replace HB := zm (below_step zB hb); have NB508_509 := zlt hg (zb BK508); have NB509_508 := zgt hg (zb BK508); replace BK508 := zm (blk_below (zb BK508) hb); clear hb hbox hg; have hnb8 := NB508_509.out; have hnc8 := NB509_508.out; have hcz9_0 : w7.cell? ⟨gb508, 0, none⟩ = some (.slice A0_0 l0_0.length c0_0) := (blk_cell BK508.out 0).trans rfl; have hcz9_1 : w7.cell? ⟨gb508, 1, none⟩ = some (.slice A0_1 l0_1.length c0_1) := (blk_cell BK508.out 1).trans rfl; have hfz9_0 := blk_frozen BK508.out 0; have hfz9_1 := blk_frozen BK508.out 1) | ((with_reducible refine gate_callee (f := 68) rfl ?_); refine zg (some 11) #[.agg #[.slice A0_0 l0_0.length c0_0, .slice A0_1 l0_1.length c0_1], .int .i64 a1] Try.func68 ?_; (with_reducible refine (impl_present.calls k _ _ l0_0 _ _ l0_1 a1 t510 t511 t512 t513 t514 t515 _ (zk (Kd.C_below HR0_0.out HB.out)) HC0_0.out (zk (Kd.C_below HR0_1.out HB.out)) HC0_1.out A3.out).mono ?_); rintro e w10 ⟨rfl, hb⟩; refine ⟨_, rfl, ?_⟩; replace BK508 := zm (blk_below (zb BK508) hb); replace BK509 := zm (blk_below (zb BK509) hb); replace HB := zm (below_step zB hb); clear hb) | ((with_reducible refine gate_dst (N := 6) rfl ?_); refine zbox 6 #[.int .i64 0, .int .i64 0, .int .i64 0, .int .i64 0, .string (⟨#[]⟩ : ByteArray)] 66 ?_; intro gb516 hg w11 hbox hb; have BK516 := zm (hbox); have GW516 := zge w hg zB; have GE516 := zge w hg zB; replace HB := zm (below_step zB hb); have NB508_516 := zlt hg (zb BK508); have NB516_508 := zgt hg (zb BK508); replace BK508 := zm (blk_below (zb BK508) hb); have NB509_516 := zlt hg (zb BK509); have NB516_509 := zgt hg (zb BK509); replace BK509 := zm (blk_below (zb BK509) hb); clear hb hbox hg; have hnb12 := NB516_508.out; have hnc12 := NB508_516.out; have hnb13 := NB516_509.out; have hnc13 := NB509_516.out; have hcz14_0 : w11.cell? ⟨gb516, 0, none⟩ = some (.int .i64 0) := (blk_cell BK516.out 0).trans rfl; have hcz14_1 : w11.cell? ⟨gb516, 1, none⟩ = some (.int .i64 0) := (blk_cell BK516.out 1).trans rfl; have hcz14_2 : w11.cell? ⟨gb516, 2, none⟩ = some (.int .i64 0) := (blk_cell BK516.out 2).trans rfl; have hcz14_3 : w11.cell? ⟨gb516, 3, none⟩ = some (.int .i64 0) := (blk_cell BK516.out 3).trans rfl; have hcz14_4 : w11.cell? ⟨gb516, 4, none⟩ = some (.string (⟨#[]⟩ : ByteArray)) := (blk_cell BK516.out 4).trans rfl; have hfz14_0 := blk_frozen BK516.out 0; have hfz14_1 := blk_frozen BK516.out 1; have hfz14_2 := blk_frozen BK516.out 2; have hfz14_3 := blk_frozen BK516.out 3; have hfz14_4 := blk_frozen BK516.out 4) | ((with_reducible refine gate_callee (f := 69) rfl ?_); refine zg (some 21) #[.int .i64 a1, .agg #[.int .i64 t510, .int .i64 1, .int .i64 t512, .int .i64 t513, .string t514]] Try.func69 ?_; (with_reducible refine (impl_saying.calls a1 t510 1 t512 t513 t514 t517 t520 t523 _ A5.out).mono ?_); rintro e w15 ⟨v518, v521, rfl, ho0, ho1, hb⟩; refine ⟨_, rfl, ?_⟩; have HO519 := zm (Kd.R_lower ho0 (below_size zB)); have HO522 := zm (Kd.R_lower ho1 (below_size zB)); replace BK508 := zm (blk_below (g := gb508) (o := .cells #[.slice A0_0 l0_0.length c0_0, .slice A0_1 l0_1.length c0_1] 32 (0, 0)) (zfar (zfar (zfar (zfar (zfar (zfar (zb BK508) NB508_516) NB508_516) NB508_516) NB508_516) NB508_516) NB508_516) hb); replace BK509 := zm (blk_below (g := gb509) (o := .cells #[.slice none 0 0, .slice none 0 0] 32 (0, 0)) (zfar (zfar (zfar (zfar (zfar (zfar (zb BK509) NB509_516) NB509_516) NB509_516) NB509_516) NB509_516) NB509_516) hb); replace BK516 := zm (blk_below (g := gb516) (o := .cells #[.int .i64 t510, .int .i64 1, .int .i64 t512, .int .i64 t513, .string t514] 66 (0, 0)) (zput (zput (zput (zput (zput (zput (zb BK516) 0) 1) 2) 3) 4) 1) hb); replace HB := zm (below_step zB hb); clear hb ho0 ho1; obtain ⟨Ao16, co16, eo16⟩ := Kd.R_slice HO519.out; subst eo16; have hcz17_0 : w15.cell? ⟨gb509, 0, none⟩ = some (.slice none 0 0) := (blk_cell BK509.out 0).trans rfl; have hcz17_1 : w15.cell? ⟨gb509, 1, none⟩ = some (.slice none 0 0) := (blk_cell BK509.out 1).trans rfl; have hfz17_0 := blk_frozen BK509.out 0; have hfz17_1 := blk_frozen BK509.out 1; obtain ⟨Ao18, co18, eo18⟩ := Kd.R_slice HO522.out; subst eo18))
  refine bodyPost_ret (results_ct rfl _ _ gb509 32 #[.slice Ao16 t517.length co16, .slice Ao18 t520.length co18] (0, 0) _ rfl (zput (zput (zb BK509) 0) 1) Try.underlying32 rfl (by kernel_rfl)) rfl ?_
  exact ⟨_, _, zE, zrs <| Kd.R_mono (zfr (zfr (Kd.R_types HO519.out BK509.out (by decide)))) (fun _ hk => trivial), zrs <| Kd.R_mono (zfr (zfr (Kd.R_types HO522.out BK509.out (by decide)))) (fun _ hk => trivial), zB⟩
 ·rw [if_neg c4] at H
  have c4b0 : (t515 == 0) = false := beq_eq_false_iff_ne.mpr c4
  have c4b1 : (t515 != 0) = true := bne_iff_ne.mpr c4
  simp only [Option.some.injEq, Prod.mk.injEq] at H
  obtain ⟨rfl, rfl, rfl⟩ := H
  go_enter Try.func25, Try.ntmps25
  go_wp2_with (first | ((with_reducible refine gate_dst (N := 2) rfl ?_); refine zbox 2 #[.slice A0_0 l0_0.length c0_0, .slice A0_1 l0_1.length c0_1] 32 ?_; intro gb508 hg w19 hbox hb; have BK508 := zm (hbox); have GW508 := zge w hg zB; have GE508 := zge w hg zB; replace HB := zm (below_step zB hb); clear hb hbox hg) | ((with_reducible refine gate_dst (N := 4) rfl ?_); refine zbox 4 #[.slice none 0 0, .slice none 0 0] 32 ?_; intro gb509 hg w20 hbox hb; have BK509 := zm (hbox); have GW509 := zge w hg zB; have GE509 := zge w hg zB; replace HB := zm (below_step zB hb); have NB508_509 := zlt hg (zb BK508); have NB509_508 := zgt hg (zb BK508); replace BK508 := zm (blk_below (zb BK508) hb); clear hb hbox hg; have hnb21 := NB508_509.out; have hnc21 := NB509_508.out; have hcz22_0 : w20.cell? ⟨gb508, 0, none⟩ = some (.slice A0_0 l0_0.length c0_0) := (blk_cell BK508.out 0).trans rfl; have hcz22_1 : w20.cell? ⟨gb508, 1, none⟩ = some (.slice A0_1 l0_1.length c0_1) := (blk_cell BK508.out 1).trans rfl; have hfz22_0 := blk_frozen BK508.out 0; have hfz22_1 := blk_frozen BK508.out 1) | ((with_reducible refine gate_callee (f := 68) rfl ?_); refine zg (some 11) #[.agg #[.slice A0_0 l0_0.length c0_0, .slice A0_1 l0_1.length c0_1], .int .i64 a1] Try.func68 ?_; (with_reducible refine (impl_present.calls k _ _ l0_0 _ _ l0_1 a1 t510 t511 t512 t513 t514 t515 _ (zk (Kd.C_below HR0_0.out HB.out)) HC0_0.out (zk (Kd.C_below HR0_1.out HB.out)) HC0_1.out A3.out).mono ?_); rintro e w23 ⟨rfl, hb⟩; refine ⟨_, rfl, ?_⟩; replace BK508 := zm (blk_below (zb BK508) hb); replace BK509 := zm (blk_below (zb BK509) hb); replace HB := zm (below_step zB hb); clear hb) | ((with_reducible refine gate_dst (N := 6) rfl ?_); refine zbox 6 #[.int .i64 0, .int .i64 0, .int .i64 0, .int .i64 0, .string (⟨#[]⟩ : ByteArray)] 66 ?_; intro gb516 hg w24 hbox hb; have BK516 := zm (hbox); have GW516 := zge w hg zB; have GE516 := zge w hg zB; replace HB := zm (below_step zB hb); have NB508_516 := zlt hg (zb BK508); have NB516_508 := zgt hg (zb BK508); replace BK508 := zm (blk_below (zb BK508) hb); have NB509_516 := zlt hg (zb BK509); have NB516_509 := zgt hg (zb BK509); replace BK509 := zm (blk_below (zb BK509) hb); clear hb hbox hg; have hnb25 := NB516_508.out; have hnc25 := NB508_516.out; have hnb26 := NB516_509.out; have hnc26 := NB509_516.out; have hcz27_0 : w24.cell? ⟨gb516, 0, none⟩ = some (.int .i64 0) := (blk_cell BK516.out 0).trans rfl; have hcz27_1 : w24.cell? ⟨gb516, 1, none⟩ = some (.int .i64 0) := (blk_cell BK516.out 1).trans rfl; have hcz27_2 : w24.cell? ⟨gb516, 2, none⟩ = some (.int .i64 0) := (blk_cell BK516.out 2).trans rfl; have hcz27_3 : w24.cell? ⟨gb516, 3, none⟩ = some (.int .i64 0) := (blk_cell BK516.out 3).trans rfl; have hcz27_4 : w24.cell? ⟨gb516, 4, none⟩ = some (.string (⟨#[]⟩ : ByteArray)) := (blk_cell BK516.out 4).trans rfl; have hfz27_0 := blk_frozen BK516.out 0; have hfz27_1 := blk_frozen BK516.out 1; have hfz27_2 := blk_frozen BK516.out 2; have hfz27_3 := blk_frozen BK516.out 3; have hfz27_4 := blk_frozen BK516.out 4; have hcz28_0 : w24.cell? ⟨gb509, 0, none⟩ = some (.slice none 0 0) := (blk_cell BK509.out 0).trans rfl; have hcz28_1 : w24.cell? ⟨gb509, 1, none⟩ = some (.slice none 0 0) := (blk_cell BK509.out 1).trans rfl; have hfz28_0 := blk_frozen BK509.out 0; have hfz28_1 := blk_frozen BK509.out 1))
  refine bodyPost_ret (results_ct rfl _ _ gb509 32 #[.slice none 0 0, .slice none 0 0] (0, 0) _ rfl (zput (zput (zfar (zfar (zfar (zfar (zfar (zb BK509) NB509_516) NB509_516) NB509_516) NB509_516) NB509_516) 0) 1) Try.underlying32 rfl (by kernel_rfl)) rfl ?_
  exact ⟨_, _, zE, by first | exact Kd.R_nil _ _ _ _ _ | exact Kd.N_nil _ _ _ _ _ | exact Kd.V_nil _ _ _ _ _ | exact Kd.Q_nil _ _ _ _ _ | exact Kd.S_nil _ _ _ _ _, by first | exact Kd.R_nil _ _ _ _ _ | exact Kd.N_nil _ _ _ _ _ | exact Kd.V_nil _ _ _ _ _ | exact Kd.Q_nil _ _ _ _ _ | exact Kd.S_nil _ _ _ _ _, zB⟩

/-! ### laws_heldItemS: function 70 -/
def laws_heldItemS.l0 : Nat → List (S68) → Int → Int → Option (Int)
 | 0, _, _, _ => none
 | k + 1, x0, x1, x5 => if x5 < (x0.length : Int) then (if 0 ≤ x5 then (if ((rd_T68 x0 x5).f0) = x1 then (if ((rd_T68 x0 x5).f1.f0) = (wrap64 (x1 + 1)) then (if ((rd_T68 x0 x5).f1.f1) = (wrap64 ((wrap64 (x1 + 1)) + 1)) then (if ((rd_T68 x0 x5).f1.f2) = (wrap64 ((wrap64 ((wrap64 (x1 + 1)) + 1)) + 1)) then (if ((rd_T68 x0 x5).f1.f3) = (wrap64 ((wrap64 ((wrap64 ((wrap64 (x1 + 1)) + 1)) + 1)) + 1)) then ((laws_markText.f k (wrap64 ((wrap64 ((wrap64 ((wrap64 ((wrap64 (x1 + 1)) + 1)) + 1)) + 1)) + 1))).bind fun t530 => (if ((rd_T68 x0 x5).f1.f4).toList = t530.toList then (laws_heldItemS.l0 k x0 (wrap64 ((wrap64 ((wrap64 ((wrap64 ((wrap64 ((wrap64 (x1 + 1)) + 1)) + 1)) + 1)) + 1)) + 1)) (wrap64 (x5 + 1))) else (some (-1)))) else (some (-1))) else (some (-1))) else (some (-1))) else (some (-1))) else (some (-1))) else (none)) else (some x1)
def laws_heldItemS.f (k : Nat) (l0 : List (S68)) (a1 : Int) : Option (Int) := laws_heldItemS.l0 k l0 a1 0
theorem laws_heldItemS.mono_l : ∀ k, (∀ y0 y1 y2, LeO (laws_heldItemS.l0 k y0 y1 y2) (laws_heldItemS.l0 (k + 1) y0 y1 y2))
 | 0 => fun _ _ _ r h => by simp [laws_heldItemS.l0] at h
 | k + 1 => by
  have ih0 := laws_heldItemS.mono_l k
  ·intro y0 y1 y2
   unfold laws_heldItemS.l0
   repeat' first
   | (with_reducible exact ih0 _ _ _)
   | (with_reducible exact laws_markText.mono _ _)
   | (with_reducible exact LeO.refl _)
   | (with_reducible exact LeO.none _)
   | (with_reducible refine LeO.ite ?_ ?_)
   | (with_reducible refine LeO.bind ?_ (fun _ => ?_))
   | exact ih0 _ _ _
   | exact laws_markText.mono _ _
   | exact LeO.none _
   | refine LeO.ite ?_ ?_
   | refine LeO.bind ?_ (fun _ => ?_)
theorem laws_heldItemS.mono : ∀ a0 a1 k, LeO (laws_heldItemS.f k a0 a1) (laws_heldItemS.f (k + 1) a0 a1) := by
 intro a0 a1 k
 have ih0 := laws_heldItemS.mono_l k
 unfold laws_heldItemS.f
 repeat' first
   | (with_reducible exact ih0 _ _ _)
   | (with_reducible exact laws_markText.mono _ _)
   | (with_reducible exact LeO.refl _)
   | (with_reducible exact LeO.none _)
   | (with_reducible refine LeO.ite ?_ ?_)
   | (with_reducible refine LeO.bind ?_ (fun _ => ?_))
   | exact ih0 _ _ _
   | exact laws_markText.mono _ _
   | exact LeO.none _
   | refine LeO.ite ?_ ?_
   | refine LeO.bind ?_ (fun _ => ?_)
def laws_heldItemS.T19 : Bool × List (List Nat × List Nat) := (true, [([], []), ([], []), ([0, 1], [0, 1]), ([2], [2]), ([3], [3]), ([4], [4]), ([], []), ([6], [6]), ([5, 7], [5, 7])])
def laws_heldItemS.B19 : List Nat := [0, 0, 3, 7, 15, 31, 0, 64, 255]
theorem laws_heldItemS.tab19 : rtab .any (opsOf Try.f70 19) = laws_heldItemS.T19 := by kernel_rfl
theorem laws_heldItemS.bits19 : waitsOk laws_heldItemS.T19.2 laws_heldItemS.B19 = true := by kernel_rfl
set_option maxHeartbeats 8000000 in
set_option maxRecDepth 100000 in
theorem laws_heldItemS.calls (k : Nat) (A0 : Option Addr) (c0 : Nat) (l0 : List (S68)) (a1 : Int) (r : Int) (w : World) (hr0 : Kd.C k68 w A0 l0.length l0) (hc0 : l0.length ≤ c0) (h : laws_heldItemS.f k l0 a1 = some r) :
  Calls Try.prog 70 #[.slice A0 l0.length c0, .int .i64 a1] w fun e w' => e = .returned (.int .i64 r) ∧ Below w.heap.size w w' := by
 have HR0 := zm hr0
 have HC0 := zm hc0
 clear hr0 hc0
 have HB := zm (Below.refl w.heap.size w)
 have H : (laws_heldItemS.l0 k l0 a1 0) = some r := h
 clear h
 have H' := zm H
 clear H
 go_enter Try.func70, Try.ntmps70
 go_wp2
 go_loopg [1, 5] k (fun kq v1 v5 w' => ∃ (x1_1 : Int) (x5_1 : Int), v1 = .int .i64 x1_1 ∧ v5 = .int .i64 x5_1 ∧ Aside0 (laws_heldItemS.l0 kq l0 x1_1 x5_1 = some r) ∧ Aside0 (kq ≤ k) ∧ Aside0 (Below w.heap.size w w'))
 case atStart => exact ⟨(a1), (0), zF, zF, H', ⟨Nat.le_refl _⟩, ⟨zB⟩⟩
 case round =>
  clear H'
  try clear p2
  obtain ⟨x1_1, x5_1, rfl, rfl, HA, HK1, HB⟩ := hrel
  cases gk with
  | zero => exact absurd HA.out (by simp [laws_heldItemS.l0])
  | succ k1 =>
   have H := HA.out
   clear HA
   simp only [laws_heldItemS.l0] at H
   by_cases c3 : x5_1 < (l0.length : Int)
   ·rw [if_pos c3] at H
    have c3b0 : decide (x5_1 < (l0.length : Int)) = true := decide_eq_true c3
    clear c3
    by_cases c4 : 0 ≤ x5_1
    ·rw [if_pos c4] at H
     have c4b0 : decide (0 ≤ x5_1) = true := decide_eq_true c4
     clear c4
     by_cases c5 : ((rd_T68 l0 x5_1).f0) = x1_1
     ·rw [if_pos c5] at H
      have c5b0 : (((rd_T68 l0 x5_1).f0) == x1_1) = true := beq_iff_eq.mpr c5
      have c5b1 : (((rd_T68 l0 x5_1).f0) != x1_1) = false := bne_eq_false_iff_eq.mpr c5
      clear c5
      by_cases c6 : ((rd_T68 l0 x5_1).f1.f0) = (wrap64 (x1_1 + 1))
      ·rw [if_pos c6] at H
       have c6b0 : (((rd_T68 l0 x5_1).f1.f0) == (wrap64 (x1_1 + 1))) = true := beq_iff_eq.mpr c6
       have c6b1 : (((rd_T68 l0 x5_1).f1.f0) != (wrap64 (x1_1 + 1))) = false := bne_eq_false_iff_eq.mpr c6
       clear c6
       by_cases c7 : ((rd_T68 l0 x5_1).f1.f1) = (wrap64 ((wrap64 (x1_1 + 1)) + 1))
       ·rw [if_pos c7] at H
        have c7b0 : (((rd_T68 l0 x5_1).f1.f1) == (wrap64 ((wrap64 (x1_1 + 1)) + 1))) = true := beq_iff_eq.mpr c7
        have c7b1 : (((rd_T68 l0 x5_1).f1.f1) != (wrap64 ((wrap64 (x1_1 + 1)) + 1))) = false := bne_eq_false_iff_eq.mpr c7
        clear c7
        by_cases c8 : ((rd_T68 l0 x5_1).f1.f2) = (wrap64 ((wrap64 ((wrap64 (x1_1 + 1)) + 1)) + 1))
        ·rw [if_pos c8] at H
         have c8b0 : (((rd_T68 l0 x5_1).f1.f2) == (wrap64 ((wrap64 ((wrap64 (x1_1 + 1)) + 1)) + 1))) = true := beq_iff_eq.mpr c8
         have c8b1 : (((rd_T68 l0 x5_1).f1.f2) != (wrap64 ((wrap64 ((wrap64 (x1_1 + 1)) + 1)) + 1))) = false := bne_eq_false_iff_eq.mpr c8
         clear c8
         by_cases c9 : ((rd_T68 l0 x5_1).f1.f3) = (wrap64 ((wrap64 ((wrap64 ((wrap64 (x1_1 + 1)) + 1)) + 1)) + 1))
         ·rw [if_pos c9] at H
          have c9b0 : (((rd_T68 l0 x5_1).f1.f3) == (wrap64 ((wrap64 ((wrap64 ((wrap64 (x1_1 + 1)) + 1)) + 1)) + 1))) = true := beq_iff_eq.mpr c9
          have c9b1 : (((rd_T68 l0 x5_1).f1.f3) != (wrap64 ((wrap64 ((wrap64 ((wrap64 (x1_1 + 1)) + 1)) + 1)) + 1))) = false := bne_eq_false_iff_eq.mpr c9
          clear c9
          replace H := Option.bind_eq_some_iff.mp H
          obtain ⟨t530, A100, H⟩ := H
          replace H : (if ((rd_T68 l0 x5_1).f1.f4).toList = t530.toList then (laws_heldItemS.l0 k1 l0 (wrap64 ((wrap64 ((wrap64 ((wrap64 ((wrap64 ((wrap64 (x1_1 + 1)) + 1)) + 1)) + 1)) + 1)) + 1)) (wrap64 (x5_1 + 1))) else (some (-1))) = some r := H
          have A10 := zm A100
          clear A100
          by_cases c11 : ((rd_T68 l0 x5_1).f1.f4).toList = t530.toList
          ·rw [if_pos c11] at H
           have c11b0 : (((rd_T68 l0 x5_1).f1.f4).toList == t530.toList) = true := beq_iff_eq.mpr c11
           have c11b1 : (((rd_T68 l0 x5_1).f1.f4).toList != t530.toList) = false := bne_eq_false_iff_eq.mpr c11
           clear c11
           have H' := zm H
           clear H
           have p524 : 0 ≤ (x5_1 : Int) := zd
           have q524 : x5_1 < (l0.length : Int) := zd
           obtain ⟨ad524, e524, hx524_0, hx524_1, hx524_2, hx524_3, hx524_4, hx524_5⟩ := at_T68 (Kd.C_below HR0.out HB.out) x5_1 p524 q524
           cases e524
           replace p524 := eq_true p524
           replace q524 := eq_true q524
           have p525 : 0 ≤ (x5_1 : Int) := zd
           have q525 : x5_1 < (l0.length : Int) := zd
           obtain ⟨ad525, e525, hx525_0, hx525_1, hx525_2, hx525_3, hx525_4, hx525_5⟩ := at_T68 (Kd.C_below HR0.out HB.out) x5_1 p525 q525
           obtain rfl : ad524 = ad525 := (by injection e525)
           replace p525 := eq_true p525
           replace q525 := eq_true q525
           have p526 : 0 ≤ (x5_1 : Int) := zd
           have q526 : x5_1 < (l0.length : Int) := zd
           obtain ⟨ad526, e526, hx526_0, hx526_1, hx526_2, hx526_3, hx526_4, hx526_5⟩ := at_T68 (Kd.C_below HR0.out HB.out) x5_1 p526 q526
           obtain rfl : ad524 = ad526 := (by injection e526)
           replace p526 := eq_true p526
           replace q526 := eq_true q526
           have p527 : 0 ≤ (x5_1 : Int) := zd
           have q527 : x5_1 < (l0.length : Int) := zd
           obtain ⟨ad527, e527, hx527_0, hx527_1, hx527_2, hx527_3, hx527_4, hx527_5⟩ := at_T68 (Kd.C_below HR0.out HB.out) x5_1 p527 q527
           obtain rfl : ad524 = ad527 := (by injection e527)
           replace p527 := eq_true p527
           replace q527 := eq_true q527
           have p528 : 0 ≤ (x5_1 : Int) := zd
           have q528 : x5_1 < (l0.length : Int) := zd
           obtain ⟨ad528, e528, hx528_0, hx528_1, hx528_2, hx528_3, hx528_4, hx528_5⟩ := at_T68 (Kd.C_below HR0.out HB.out) x5_1 p528 q528
           obtain rfl : ad524 = ad528 := (by injection e528)
           replace p528 := eq_true p528
           replace q528 := eq_true q528
           try go_wp2
           replace HB := zm (below_drew1 HB.out)
           have p529 : 0 ≤ (x5_1 : Int) := zd
           have q529 : x5_1 < (l0.length : Int) := zd
           obtain ⟨ad529, e529, hx529_0, hx529_1, hx529_2, hx529_3, hx529_4, hx529_5⟩ := at_T68 HR0.out x5_1 p529 q529
           have hw529_5 := hx529_5
           have hw529_4 := hx529_4
           have hw529_3 := hx529_3
           have hw529_2 := hx529_2
           have hw529_1 := hx529_1
           have hw529_0 := hx529_0
           obtain rfl : ad524 = ad529 := (by injection e529)
           replace hx529_0 := (HB.out.cell (World.block_lt_of_cell? w _ hx529_0)).trans hx529_0
           replace hx529_1 := (HB.out.cell (World.block_lt_of_cell? w _ hx529_1)).trans hx529_1
           replace hx529_2 := (HB.out.cell (World.block_lt_of_cell? w _ hx529_2)).trans hx529_2
           replace hx529_3 := (HB.out.cell (World.block_lt_of_cell? w _ hx529_3)).trans hx529_3
           replace hx529_4 := (HB.out.cell (World.block_lt_of_cell? w _ hx529_4)).trans hx529_4
           replace hx529_5 := (HB.out.cell (World.block_lt_of_cell? w _ hx529_5)).trans hx529_5
           replace p529 := eq_true p529
           replace q529 := eq_true q529
           refine start_ (n := 9) (S := fun w' => w'.cell? (ad524.add ((x5_1).toNat * 6)) = some (.int .i64 ((rd_T68 l0 x5_1).f0)) ∧ w'.cell? ⟨(ad524.add ((x5_1).toNat * 6)).block, (ad524.add ((x5_1).toNat * 6)).off + 1, none⟩ = some (.int .i64 ((rd_T68 l0 x5_1).f1.f0)) ∧ w'.cell? ⟨(ad524.add ((x5_1).toNat * 6)).block, (ad524.add ((x5_1).toNat * 6)).off + 2, none⟩ = some (.int .i64 ((rd_T68 l0 x5_1).f1.f1)) ∧ w'.cell? ⟨(ad524.add ((x5_1).toNat * 6)).block, (ad524.add ((x5_1).toNat * 6)).off + 3, none⟩ = some (.int .i64 ((rd_T68 l0 x5_1).f1.f2)) ∧ w'.cell? ⟨(ad524.add ((x5_1).toNat * 6)).block, (ad524.add ((x5_1).toNat * 6)).off + 4, none⟩ = some (.int .i64 ((rd_T68 l0 x5_1).f1.f3)) ∧ w'.cell? ⟨(ad524.add ((x5_1).toNat * 6)).block, (ad524.add ((x5_1).toNat * 6)).off + 5, none⟩ = some (.string ((rd_T68 l0 x5_1).f1.f4))) (ds := []) (zl 9 0) (by kernel_rfl) rfl rfl ⟨((HB.out.cell (World.block_lt_of_cell? w _ hw529_0)).trans hw529_0), ((HB.out.cell (World.block_lt_of_cell? w _ hw529_1)).trans hw529_1), ((HB.out.cell (World.block_lt_of_cell? w _ hw529_2)).trans hw529_2), ((HB.out.cell (World.block_lt_of_cell? w _ hw529_3)).trans hw529_3), ((HB.out.cell (World.block_lt_of_cell? w _ hw529_4)).trans hw529_4), ((HB.out.cell (World.block_lt_of_cell? w _ hw529_5)).trans hw529_5)⟩ (fun hHeld => ?_); refine with_tabW laws_heldItemS.tab19 laws_heldItemS.bits19 (fun HT_ HW_ => ?_)
           generalize wr.drew = w12 at HB hx529_0 hx529_1 hx529_2 hx529_3 hx529_4 hx529_5 hHeld ⊢
           refine zp 0 (some 61) (zl 9 1) ?_
           refine zp 1 (some 62) (zl 9 3) ?_
           refine zp 2 (some 63) (zl 9 7) ?_
           refine zp 3 (some 64) (zl 9 15) ?_
           refine zp 4 (some 65) (zl 9 31) ?_
           refine zp 6 (some 67) (zl 9 95) ?_
           refine zt 5 (some 66) (zl 9 127) ?_
           refine zo 7 (some 68) (zl 9 255) (fun K hK => ?_)
           refine zgo #[.int .i64 (wrap64 ((wrap64 ((wrap64 ((wrap64 ((wrap64 (x1_1 + 1)) + 1)) + 1)) + 1)) + 1))] Try.func98 ?_
           with_reducible refine (laws_markText.calls k1 (wrap64 ((wrap64 ((wrap64 ((wrap64 ((wrap64 (x1_1 + 1)) + 1)) + 1)) + 1)) + 1)) t530 _ A10.out).mono ?_
           rintro e w13 ⟨rfl, hb⟩
           refine ⟨_, rfl, ?_⟩
           replace HB := zm (below_step zB hb)
           (try clear hb)
           (try clear hb2)
           (try clear hk)
           (try clear hi)
           refine hK.out _ _ ⟨((HB.out.cell (World.block_lt_of_cell? w _ hw529_0)).trans hw529_0), ((HB.out.cell (World.block_lt_of_cell? w _ hw529_1)).trans hw529_1), ((HB.out.cell (World.block_lt_of_cell? w _ hw529_2)).trans hw529_2), ((HB.out.cell (World.block_lt_of_cell? w _ hw529_3)).trans hw529_3), ((HB.out.cell (World.block_lt_of_cell? w _ hw529_4)).trans hw529_4), ((HB.out.cell (World.block_lt_of_cell? w _ hw529_5)).trans hw529_5)⟩ (fun hHeld => ?_)
           clear hK K
           refine zn ?_
           refine zp 8 (some 69) (zl 9 511) ?_
           refine done_ (done_of HT_.out (by kernel_rfl)) ?_
           try go_wp2
           go_roundg k1
           case measure => have := HK1.out; omega
           case rel => exact ⟨(wrap64 ((wrap64 ((wrap64 ((wrap64 ((wrap64 ((wrap64 (x1_1 + 1)) + 1)) + 1)) + 1)) + 1)) + 1)), (wrap64 (x5_1 + 1)), zF, zF, H', ⟨by have := HK1.out; omega⟩, ⟨zB⟩⟩
          ·rw [if_neg c11] at H
           have c11b0 : (((rd_T68 l0 x5_1).f1.f4).toList == t530.toList) = false := beq_eq_false_iff_ne.mpr c11
           have c11b1 : (((rd_T68 l0 x5_1).f1.f4).toList != t530.toList) = true := bne_iff_ne.mpr c11
           obtain rfl := Option.some.inj H
           have p524 : 0 ≤ (x5_1 : Int) := zd
           have q524 : x5_1 < (l0.length : Int) := zd
           obtain ⟨ad524, e524, hx524_0, hx524_1, hx524_2, hx524_3, hx524_4, hx524_5⟩ := at_T68 (Kd.C_below HR0.out HB.out) x5_1 p524 q524
           cases e524
           replace p524 := eq_true p524
           replace q524 := eq_true q524
           have p525 : 0 ≤ (x5_1 : Int) := zd
           have q525 : x5_1 < (l0.length : Int) := zd
           obtain ⟨ad525, e525, hx525_0, hx525_1, hx525_2, hx525_3, hx525_4, hx525_5⟩ := at_T68 (Kd.C_below HR0.out HB.out) x5_1 p525 q525
           obtain rfl : ad524 = ad525 := (by injection e525)
           replace p525 := eq_true p525
           replace q525 := eq_true q525
           have p526 : 0 ≤ (x5_1 : Int) := zd
           have q526 : x5_1 < (l0.length : Int) := zd
           obtain ⟨ad526, e526, hx526_0, hx526_1, hx526_2, hx526_3, hx526_4, hx526_5⟩ := at_T68 (Kd.C_below HR0.out HB.out) x5_1 p526 q526
           obtain rfl : ad524 = ad526 := (by injection e526)
           replace p526 := eq_true p526
           replace q526 := eq_true q526
           have p527 : 0 ≤ (x5_1 : Int) := zd
           have q527 : x5_1 < (l0.length : Int) := zd
           obtain ⟨ad527, e527, hx527_0, hx527_1, hx527_2, hx527_3, hx527_4, hx527_5⟩ := at_T68 (Kd.C_below HR0.out HB.out) x5_1 p527 q527
           obtain rfl : ad524 = ad527 := (by injection e527)
           replace p527 := eq_true p527
           replace q527 := eq_true q527
           have p528 : 0 ≤ (x5_1 : Int) := zd
           have q528 : x5_1 < (l0.length : Int) := zd
           obtain ⟨ad528, e528, hx528_0, hx528_1, hx528_2, hx528_3, hx528_4, hx528_5⟩ := at_T68 (Kd.C_below HR0.out HB.out) x5_1 p528 q528
           obtain rfl : ad524 = ad528 := (by injection e528)
           replace p528 := eq_true p528
           replace q528 := eq_true q528
           try go_wp2
           replace HB := zm (below_drew1 HB.out)
           have p529 : 0 ≤ (x5_1 : Int) := zd
           have q529 : x5_1 < (l0.length : Int) := zd
           obtain ⟨ad529, e529, hx529_0, hx529_1, hx529_2, hx529_3, hx529_4, hx529_5⟩ := at_T68 HR0.out x5_1 p529 q529
           have hw529_5 := hx529_5
           have hw529_4 := hx529_4
           have hw529_3 := hx529_3
           have hw529_2 := hx529_2
           have hw529_1 := hx529_1
           have hw529_0 := hx529_0
           obtain rfl : ad524 = ad529 := (by injection e529)
           replace hx529_0 := (HB.out.cell (World.block_lt_of_cell? w _ hx529_0)).trans hx529_0
           replace hx529_1 := (HB.out.cell (World.block_lt_of_cell? w _ hx529_1)).trans hx529_1
           replace hx529_2 := (HB.out.cell (World.block_lt_of_cell? w _ hx529_2)).trans hx529_2
           replace hx529_3 := (HB.out.cell (World.block_lt_of_cell? w _ hx529_3)).trans hx529_3
           replace hx529_4 := (HB.out.cell (World.block_lt_of_cell? w _ hx529_4)).trans hx529_4
           replace hx529_5 := (HB.out.cell (World.block_lt_of_cell? w _ hx529_5)).trans hx529_5
           replace p529 := eq_true p529
           replace q529 := eq_true q529
           refine start_ (n := 9) (S := fun w' => w'.cell? (ad524.add ((x5_1).toNat * 6)) = some (.int .i64 ((rd_T68 l0 x5_1).f0)) ∧ w'.cell? ⟨(ad524.add ((x5_1).toNat * 6)).block, (ad524.add ((x5_1).toNat * 6)).off + 1, none⟩ = some (.int .i64 ((rd_T68 l0 x5_1).f1.f0)) ∧ w'.cell? ⟨(ad524.add ((x5_1).toNat * 6)).block, (ad524.add ((x5_1).toNat * 6)).off + 2, none⟩ = some (.int .i64 ((rd_T68 l0 x5_1).f1.f1)) ∧ w'.cell? ⟨(ad524.add ((x5_1).toNat * 6)).block, (ad524.add ((x5_1).toNat * 6)).off + 3, none⟩ = some (.int .i64 ((rd_T68 l0 x5_1).f1.f2)) ∧ w'.cell? ⟨(ad524.add ((x5_1).toNat * 6)).block, (ad524.add ((x5_1).toNat * 6)).off + 4, none⟩ = some (.int .i64 ((rd_T68 l0 x5_1).f1.f3)) ∧ w'.cell? ⟨(ad524.add ((x5_1).toNat * 6)).block, (ad524.add ((x5_1).toNat * 6)).off + 5, none⟩ = some (.string ((rd_T68 l0 x5_1).f1.f4))) (ds := []) (zl 9 0) (by kernel_rfl) rfl rfl ⟨((HB.out.cell (World.block_lt_of_cell? w _ hw529_0)).trans hw529_0), ((HB.out.cell (World.block_lt_of_cell? w _ hw529_1)).trans hw529_1), ((HB.out.cell (World.block_lt_of_cell? w _ hw529_2)).trans hw529_2), ((HB.out.cell (World.block_lt_of_cell? w _ hw529_3)).trans hw529_3), ((HB.out.cell (World.block_lt_of_cell? w _ hw529_4)).trans hw529_4), ((HB.out.cell (World.block_lt_of_cell? w _ hw529_5)).trans hw529_5)⟩ (fun hHeld => ?_); refine with_tabW laws_heldItemS.tab19 laws_heldItemS.bits19 (fun HT_ HW_ => ?_)
           generalize wr.drew = w14 at HB hx529_0 hx529_1 hx529_2 hx529_3 hx529_4 hx529_5 hHeld ⊢
           refine zp 0 (some 61) (zl 9 1) ?_
           refine zp 1 (some 62) (zl 9 3) ?_
           refine zp 2 (some 63) (zl 9 7) ?_
           refine zp 3 (some 64) (zl 9 15) ?_
           refine zp 4 (some 65) (zl 9 31) ?_
           refine zp 6 (some 67) (zl 9 95) ?_
           refine zt 5 (some 66) (zl 9 127) ?_
           refine zo 7 (some 68) (zl 9 255) (fun K hK => ?_)
           refine zgo #[.int .i64 (wrap64 ((wrap64 ((wrap64 ((wrap64 ((wrap64 (x1_1 + 1)) + 1)) + 1)) + 1)) + 1))] Try.func98 ?_
           with_reducible refine (laws_markText.calls k1 (wrap64 ((wrap64 ((wrap64 ((wrap64 ((wrap64 (x1_1 + 1)) + 1)) + 1)) + 1)) + 1)) t530 _ A10.out).mono ?_
           rintro e w15 ⟨rfl, hb⟩
           refine ⟨_, rfl, ?_⟩
           replace HB := zm (below_step zB hb)
           (try clear hb)
           (try clear hb2)
           (try clear hk)
           (try clear hi)
           refine hK.out _ _ ⟨((HB.out.cell (World.block_lt_of_cell? w _ hw529_0)).trans hw529_0), ((HB.out.cell (World.block_lt_of_cell? w _ hw529_1)).trans hw529_1), ((HB.out.cell (World.block_lt_of_cell? w _ hw529_2)).trans hw529_2), ((HB.out.cell (World.block_lt_of_cell? w _ hw529_3)).trans hw529_3), ((HB.out.cell (World.block_lt_of_cell? w _ hw529_4)).trans hw529_4), ((HB.out.cell (World.block_lt_of_cell? w _ hw529_5)).trans hw529_5)⟩ (fun hHeld => ?_)
           clear hK K
           refine zn ?_
           refine zp 8 (some 69) (zl 9 511) ?_
           refine done_ (done_of HT_.out (by kernel_rfl)) ?_
           try go_wp2
           go_ret
           exact ⟨zE, zB⟩
         ·rw [if_neg c9] at H
          have c9b0 : (((rd_T68 l0 x5_1).f1.f3) == (wrap64 ((wrap64 ((wrap64 ((wrap64 (x1_1 + 1)) + 1)) + 1)) + 1))) = false := beq_eq_false_iff_ne.mpr c9
          have c9b1 : (((rd_T68 l0 x5_1).f1.f3) != (wrap64 ((wrap64 ((wrap64 ((wrap64 (x1_1 + 1)) + 1)) + 1)) + 1))) = true := bne_iff_ne.mpr c9
          obtain rfl := Option.some.inj H
          have p524 : 0 ≤ (x5_1 : Int) := zd
          have q524 : x5_1 < (l0.length : Int) := zd
          obtain ⟨ad524, e524, hx524_0, hx524_1, hx524_2, hx524_3, hx524_4, hx524_5⟩ := at_T68 (Kd.C_below HR0.out HB.out) x5_1 p524 q524
          cases e524
          replace p524 := eq_true p524
          replace q524 := eq_true q524
          have p525 : 0 ≤ (x5_1 : Int) := zd
          have q525 : x5_1 < (l0.length : Int) := zd
          obtain ⟨ad525, e525, hx525_0, hx525_1, hx525_2, hx525_3, hx525_4, hx525_5⟩ := at_T68 (Kd.C_below HR0.out HB.out) x5_1 p525 q525
          obtain rfl : ad524 = ad525 := (by injection e525)
          replace p525 := eq_true p525
          replace q525 := eq_true q525
          have p526 : 0 ≤ (x5_1 : Int) := zd
          have q526 : x5_1 < (l0.length : Int) := zd
          obtain ⟨ad526, e526, hx526_0, hx526_1, hx526_2, hx526_3, hx526_4, hx526_5⟩ := at_T68 (Kd.C_below HR0.out HB.out) x5_1 p526 q526
          obtain rfl : ad524 = ad526 := (by injection e526)
          replace p526 := eq_true p526
          replace q526 := eq_true q526
          have p527 : 0 ≤ (x5_1 : Int) := zd
          have q527 : x5_1 < (l0.length : Int) := zd
          obtain ⟨ad527, e527, hx527_0, hx527_1, hx527_2, hx527_3, hx527_4, hx527_5⟩ := at_T68 (Kd.C_below HR0.out HB.out) x5_1 p527 q527
          obtain rfl : ad524 = ad527 := (by injection e527)
          replace p527 := eq_true p527
          replace q527 := eq_true q527
          have p528 : 0 ≤ (x5_1 : Int) := zd
          have q528 : x5_1 < (l0.length : Int) := zd
          obtain ⟨ad528, e528, hx528_0, hx528_1, hx528_2, hx528_3, hx528_4, hx528_5⟩ := at_T68 (Kd.C_below HR0.out HB.out) x5_1 p528 q528
          obtain rfl : ad524 = ad528 := (by injection e528)
          replace p528 := eq_true p528
          replace q528 := eq_true q528
          go_wp2
          go_ret
          exact ⟨zE, zB⟩
        ·rw [if_neg c8] at H
         have c8b0 : (((rd_T68 l0 x5_1).f1.f2) == (wrap64 ((wrap64 ((wrap64 (x1_1 + 1)) + 1)) + 1))) = false := beq_eq_false_iff_ne.mpr c8
         have c8b1 : (((rd_T68 l0 x5_1).f1.f2) != (wrap64 ((wrap64 ((wrap64 (x1_1 + 1)) + 1)) + 1))) = true := bne_iff_ne.mpr c8
         obtain rfl := Option.some.inj H
         have p524 : 0 ≤ (x5_1 : Int) := zd
         have q524 : x5_1 < (l0.length : Int) := zd
         obtain ⟨ad524, e524, hx524_0, hx524_1, hx524_2, hx524_3, hx524_4, hx524_5⟩ := at_T68 (Kd.C_below HR0.out HB.out) x5_1 p524 q524
         cases e524
         replace p524 := eq_true p524
         replace q524 := eq_true q524
         have p525 : 0 ≤ (x5_1 : Int) := zd
         have q525 : x5_1 < (l0.length : Int) := zd
         obtain ⟨ad525, e525, hx525_0, hx525_1, hx525_2, hx525_3, hx525_4, hx525_5⟩ := at_T68 (Kd.C_below HR0.out HB.out) x5_1 p525 q525
         obtain rfl : ad524 = ad525 := (by injection e525)
         replace p525 := eq_true p525
         replace q525 := eq_true q525
         have p526 : 0 ≤ (x5_1 : Int) := zd
         have q526 : x5_1 < (l0.length : Int) := zd
         obtain ⟨ad526, e526, hx526_0, hx526_1, hx526_2, hx526_3, hx526_4, hx526_5⟩ := at_T68 (Kd.C_below HR0.out HB.out) x5_1 p526 q526
         obtain rfl : ad524 = ad526 := (by injection e526)
         replace p526 := eq_true p526
         replace q526 := eq_true q526
         have p527 : 0 ≤ (x5_1 : Int) := zd
         have q527 : x5_1 < (l0.length : Int) := zd
         obtain ⟨ad527, e527, hx527_0, hx527_1, hx527_2, hx527_3, hx527_4, hx527_5⟩ := at_T68 (Kd.C_below HR0.out HB.out) x5_1 p527 q527
         obtain rfl : ad524 = ad527 := (by injection e527)
         replace p527 := eq_true p527
         replace q527 := eq_true q527
         go_wp2
         go_ret
         exact ⟨zE, zB⟩
       ·rw [if_neg c7] at H
        have c7b0 : (((rd_T68 l0 x5_1).f1.f1) == (wrap64 ((wrap64 (x1_1 + 1)) + 1))) = false := beq_eq_false_iff_ne.mpr c7
        have c7b1 : (((rd_T68 l0 x5_1).f1.f1) != (wrap64 ((wrap64 (x1_1 + 1)) + 1))) = true := bne_iff_ne.mpr c7
        obtain rfl := Option.some.inj H
        have p524 : 0 ≤ (x5_1 : Int) := zd
        have q524 : x5_1 < (l0.length : Int) := zd
        obtain ⟨ad524, e524, hx524_0, hx524_1, hx524_2, hx524_3, hx524_4, hx524_5⟩ := at_T68 (Kd.C_below HR0.out HB.out) x5_1 p524 q524
        cases e524
        replace p524 := eq_true p524
        replace q524 := eq_true q524
        have p525 : 0 ≤ (x5_1 : Int) := zd
        have q525 : x5_1 < (l0.length : Int) := zd
        obtain ⟨ad525, e525, hx525_0, hx525_1, hx525_2, hx525_3, hx525_4, hx525_5⟩ := at_T68 (Kd.C_below HR0.out HB.out) x5_1 p525 q525
        obtain rfl : ad524 = ad525 := (by injection e525)
        replace p525 := eq_true p525
        replace q525 := eq_true q525
        have p526 : 0 ≤ (x5_1 : Int) := zd
        have q526 : x5_1 < (l0.length : Int) := zd
        obtain ⟨ad526, e526, hx526_0, hx526_1, hx526_2, hx526_3, hx526_4, hx526_5⟩ := at_T68 (Kd.C_below HR0.out HB.out) x5_1 p526 q526
        obtain rfl : ad524 = ad526 := (by injection e526)
        replace p526 := eq_true p526
        replace q526 := eq_true q526
        go_wp2
        go_ret
        exact ⟨zE, zB⟩
      ·rw [if_neg c6] at H
       have c6b0 : (((rd_T68 l0 x5_1).f1.f0) == (wrap64 (x1_1 + 1))) = false := beq_eq_false_iff_ne.mpr c6
       have c6b1 : (((rd_T68 l0 x5_1).f1.f0) != (wrap64 (x1_1 + 1))) = true := bne_iff_ne.mpr c6
       obtain rfl := Option.some.inj H
       have p524 : 0 ≤ (x5_1 : Int) := zd
       have q524 : x5_1 < (l0.length : Int) := zd
       obtain ⟨ad524, e524, hx524_0, hx524_1, hx524_2, hx524_3, hx524_4, hx524_5⟩ := at_T68 (Kd.C_below HR0.out HB.out) x5_1 p524 q524
       cases e524
       replace p524 := eq_true p524
       replace q524 := eq_true q524
       have p525 : 0 ≤ (x5_1 : Int) := zd
       have q525 : x5_1 < (l0.length : Int) := zd
       obtain ⟨ad525, e525, hx525_0, hx525_1, hx525_2, hx525_3, hx525_4, hx525_5⟩ := at_T68 (Kd.C_below HR0.out HB.out) x5_1 p525 q525
       obtain rfl : ad524 = ad525 := (by injection e525)
       replace p525 := eq_true p525
       replace q525 := eq_true q525
       go_wp2
       go_ret
       exact ⟨zE, zB⟩
     ·rw [if_neg c5] at H
      have c5b0 : (((rd_T68 l0 x5_1).f0) == x1_1) = false := beq_eq_false_iff_ne.mpr c5
      have c5b1 : (((rd_T68 l0 x5_1).f0) != x1_1) = true := bne_iff_ne.mpr c5
      obtain rfl := Option.some.inj H
      have p524 : 0 ≤ (x5_1 : Int) := zd
      have q524 : x5_1 < (l0.length : Int) := zd
      obtain ⟨ad524, e524, hx524_0, hx524_1, hx524_2, hx524_3, hx524_4, hx524_5⟩ := at_T68 (Kd.C_below HR0.out HB.out) x5_1 p524 q524
      cases e524
      replace p524 := eq_true p524
      replace q524 := eq_true q524
      go_wp2
      go_ret
      exact ⟨zE, zB⟩
    ·rw [if_neg c4] at H
     exact absurd H (by simp)
   ·rw [if_neg c3] at H
    have c3b0 : decide (x5_1 < (l0.length : Int)) = false := decide_eq_false c3
    clear c3
    obtain rfl := Option.some.inj H
    go_wp2
    go_ret
    exact ⟨zE, zB⟩

/-! ### laws_heldFloorS: function 71 -/
def laws_heldFloorS.l0 : Nat → List (S72) → Int → Int → Option (Int)
 | 0, _, _, _ => none
 | k + 1, x0, x1, x5 => if x5 < (x0.length : Int) then (if 0 ≤ x5 then (if ((rd_T72 x0 x5).f0) = x1 then (if ((rd_T72 x0 x5).f1) = (wrap64 (x1 + 1)) then (laws_heldFloorS.l0 k x0 (wrap64 ((wrap64 (x1 + 1)) + 1)) (wrap64 (x5 + 1))) else (some (-1))) else (some (-1))) else (none)) else (some x1)
def laws_heldFloorS.f (k : Nat) (l0 : List (S72)) (a1 : Int) : Option (Int) := laws_heldFloorS.l0 k l0 a1 0
theorem laws_heldFloorS.mono_l : ∀ k, (∀ y0 y1 y2, LeO (laws_heldFloorS.l0 k y0 y1 y2) (laws_heldFloorS.l0 (k + 1) y0 y1 y2))
 | 0 => fun _ _ _ r h => by simp [laws_heldFloorS.l0] at h
 | k + 1 => by
  have ih0 := laws_heldFloorS.mono_l k
  ·intro y0 y1 y2
   unfold laws_heldFloorS.l0
   repeat' first
   | (with_reducible exact ih0 _ _ _)
   | (with_reducible exact LeO.refl _)
   | (with_reducible exact LeO.none _)
   | (with_reducible refine LeO.ite ?_ ?_)
   | (with_reducible refine LeO.bind ?_ (fun _ => ?_))
   | exact ih0 _ _ _
   | exact LeO.none _
   | refine LeO.ite ?_ ?_
   | refine LeO.bind ?_ (fun _ => ?_)
theorem laws_heldFloorS.mono : ∀ a0 a1 k, LeO (laws_heldFloorS.f k a0 a1) (laws_heldFloorS.f (k + 1) a0 a1) := by
 intro a0 a1 k
 have ih0 := laws_heldFloorS.mono_l k
 unfold laws_heldFloorS.f
 repeat' first
   | (with_reducible exact ih0 _ _ _)
   | (with_reducible exact LeO.refl _)
   | (with_reducible exact LeO.none _)
   | (with_reducible refine LeO.ite ?_ ?_)
   | (with_reducible refine LeO.bind ?_ (fun _ => ?_))
   | exact ih0 _ _ _
   | exact LeO.none _
   | refine LeO.ite ?_ ?_
   | refine LeO.bind ?_ (fun _ => ?_)
set_option maxHeartbeats 8000000 in
set_option maxRecDepth 100000 in
theorem laws_heldFloorS.calls (k : Nat) (A0 : Option Addr) (c0 : Nat) (l0 : List (S72)) (a1 : Int) (r : Int) (w : World) (hr0 : Kd.C k72 w A0 l0.length l0) (hc0 : l0.length ≤ c0) (h : laws_heldFloorS.f k l0 a1 = some r) :
  Calls Try.prog 71 #[.slice A0 l0.length c0, .int .i64 a1] w fun e w' => e = .returned (.int .i64 r) ∧ Drawn0 w w' := by
 have HR0 := zm hr0
 have HC0 := zm hc0
 clear hr0 hc0
 have H : (laws_heldFloorS.l0 k l0 a1 0) = some r := h
 clear h
 have H' := zm H
 clear H
 go_enter Try.func71, Try.ntmps71
 go_wp2
 go_loopg [1, 5] k (fun kq v1 v5 w' => ∃ (x1_1 : Int) (x5_1 : Int), v1 = .int .i64 x1_1 ∧ v5 = .int .i64 x5_1 ∧ Aside0 (laws_heldFloorS.l0 kq l0 x1_1 x5_1 = some r) ∧ Aside0 (kq ≤ k) ∧ Drawn0 w w')
 case atStart => exact ⟨(a1), (0), zF, zF, H', ⟨Nat.le_refl _⟩, zD⟩
 case round =>
  clear H'
  try clear p2
  obtain ⟨x1_1, x5_1, rfl, rfl, HA, HK1, ⟨m1, rfl⟩⟩ := hrel
  cases gk with
  | zero => exact absurd HA.out (by simp [laws_heldFloorS.l0])
  | succ k1 =>
   have H := HA.out
   clear HA
   simp only [laws_heldFloorS.l0] at H
   by_cases c3 : x5_1 < (l0.length : Int)
   ·rw [if_pos c3] at H
    have c3b0 : decide (x5_1 < (l0.length : Int)) = true := decide_eq_true c3
    clear c3
    by_cases c4 : 0 ≤ x5_1
    ·rw [if_pos c4] at H
     have c4b0 : decide (0 ≤ x5_1) = true := decide_eq_true c4
     clear c4
     by_cases c5 : ((rd_T72 l0 x5_1).f0) = x1_1
     ·rw [if_pos c5] at H
      have c5b0 : (((rd_T72 l0 x5_1).f0) == x1_1) = true := beq_iff_eq.mpr c5
      have c5b1 : (((rd_T72 l0 x5_1).f0) != x1_1) = false := bne_eq_false_iff_eq.mpr c5
      clear c5
      by_cases c6 : ((rd_T72 l0 x5_1).f1) = (wrap64 (x1_1 + 1))
      ·rw [if_pos c6] at H
       have c6b0 : (((rd_T72 l0 x5_1).f1) == (wrap64 (x1_1 + 1))) = true := beq_iff_eq.mpr c6
       have c6b1 : (((rd_T72 l0 x5_1).f1) != (wrap64 (x1_1 + 1))) = false := bne_eq_false_iff_eq.mpr c6
       clear c6
       have H' := zm H
       clear H
       have p531 : 0 ≤ (x5_1 : Int) := zd
       have q531 : x5_1 < (l0.length : Int) := zd
       obtain ⟨ad531, e531, hx531_0, hx531_1⟩ := at_T72 HR0.out x5_1 p531 q531
       cases e531
       replace p531 := eq_true p531
       replace q531 := eq_true q531
       have p532 : 0 ≤ (x5_1 : Int) := zd
       have q532 : x5_1 < (l0.length : Int) := zd
       obtain ⟨ad532, e532, hx532_0, hx532_1⟩ := at_T72 HR0.out x5_1 p532 q532
       obtain rfl : ad531 = ad532 := (by injection e532)
       replace p532 := eq_true p532
       replace q532 := eq_true q532
       go_wp2
       go_roundg k1
       case measure => have := HK1.out; omega
       case rel => exact ⟨(wrap64 ((wrap64 (x1_1 + 1)) + 1)), (wrap64 (x5_1 + 1)), zF, zF, H', ⟨by have := HK1.out; omega⟩, zD⟩
      ·rw [if_neg c6] at H
       have c6b0 : (((rd_T72 l0 x5_1).f1) == (wrap64 (x1_1 + 1))) = false := beq_eq_false_iff_ne.mpr c6
       have c6b1 : (((rd_T72 l0 x5_1).f1) != (wrap64 (x1_1 + 1))) = true := bne_iff_ne.mpr c6
       obtain rfl := Option.some.inj H
       have p531 : 0 ≤ (x5_1 : Int) := zd
       have q531 : x5_1 < (l0.length : Int) := zd
       obtain ⟨ad531, e531, hx531_0, hx531_1⟩ := at_T72 HR0.out x5_1 p531 q531
       cases e531
       replace p531 := eq_true p531
       replace q531 := eq_true q531
       have p532 : 0 ≤ (x5_1 : Int) := zd
       have q532 : x5_1 < (l0.length : Int) := zd
       obtain ⟨ad532, e532, hx532_0, hx532_1⟩ := at_T72 HR0.out x5_1 p532 q532
       obtain rfl : ad531 = ad532 := (by injection e532)
       replace p532 := eq_true p532
       replace q532 := eq_true q532
       go_wp2
       go_ret
       exact ⟨zF, zD⟩
     ·rw [if_neg c5] at H
      have c5b0 : (((rd_T72 l0 x5_1).f0) == x1_1) = false := beq_eq_false_iff_ne.mpr c5
      have c5b1 : (((rd_T72 l0 x5_1).f0) != x1_1) = true := bne_iff_ne.mpr c5
      obtain rfl := Option.some.inj H
      have p531 : 0 ≤ (x5_1 : Int) := zd
      have q531 : x5_1 < (l0.length : Int) := zd
      obtain ⟨ad531, e531, hx531_0, hx531_1⟩ := at_T72 HR0.out x5_1 p531 q531
      cases e531
      replace p531 := eq_true p531
      replace q531 := eq_true q531
      go_wp2
      go_ret
      exact ⟨zF, zD⟩
    ·rw [if_neg c4] at H
     exact absurd H (by simp)
   ·rw [if_neg c3] at H
    have c3b0 : decide (x5_1 < (l0.length : Int)) = false := decide_eq_false c3
    clear c3
    obtain rfl := Option.some.inj H
    go_wp2
    go_ret
    exact ⟨zF, zD⟩

/-! ### laws_heldState: function 26 -/
def laws_heldState.f (k : Nat) (l0_0 : List (S68)) (l0_1 : List (S72)) (a1 : Int) : Option (Int) := (laws_heldItemS.f k l0_0 a1).bind fun t534 => (if t534 < 0 then (some (-1)) else ((laws_heldFloorS.f k l0_1 t534).bind fun t535 => (if t535 < 0 then (some (-1)) else (some t535))))
theorem laws_heldState.mono : ∀ a0 a1 a2 k, LeO (laws_heldState.f k a0 a1 a2) (laws_heldState.f (k + 1) a0 a1 a2) := by
 intro a0 a1 a2 k
 unfold laws_heldState.f
 repeat' first
   | (with_reducible exact laws_heldFloorS.mono _ _ _)
   | (with_reducible exact laws_heldItemS.mono _ _ _)
   | (with_reducible exact LeO.refl _)
   | (with_reducible exact LeO.none _)
   | (with_reducible refine LeO.ite ?_ ?_)
   | (with_reducible refine LeO.bind ?_ (fun _ => ?_))
   | exact laws_heldFloorS.mono _ _ _
   | exact laws_heldItemS.mono _ _ _
   | exact LeO.none _
   | refine LeO.ite ?_ ?_
   | refine LeO.bind ?_ (fun _ => ?_)
set_option maxHeartbeats 8000000 in
set_option maxRecDepth 100000 in
theorem laws_heldState.calls (k : Nat) (A0_0 : Option Addr) (c0_0 : Nat) (l0_0 : List (S68)) (A0_1 : Option Addr) (c0_1 : Nat) (l0_1 : List (S72)) (a1 : Int) (r : Int) (w : World) (hr0_0 : Kd.C k68 w A0_0 l0_0.length l0_0) (hc0_0 : l0_0.length ≤ c0_0) (hr0_1 : Kd.C k72 w A0_1 l0_1.length l0_1) (hc0_1 : l0_1.length ≤ c0_1) (h : laws_heldState.f k l0_0 l0_1 a1 = some r) :
  Calls Try.prog 26 #[.agg #[.slice A0_0 l0_0.length c0_0, .slice A0_1 l0_1.length c0_1], .int .i64 a1] w fun e w' => e = .returned (.int .i64 r) ∧ Below w.heap.size w w' := by
 have hu32 := Try.underlying32
 have HR0_0 := zm hr0_0
 have HC0_0 := zm hc0_0
 clear hr0_0 hc0_0
 have HR0_1 := zm hr0_1
 have HC0_1 := zm hc0_1
 clear hr0_1 hc0_1
 have HB := zm (Below.refl w.heap.size w)
 have H : ((laws_heldItemS.f k l0_0 a1).bind fun t534 => (if t534 < 0 then (some (-1)) else ((laws_heldFloorS.f k l0_1 t534).bind fun t535 => (if t535 < 0 then (some (-1)) else (some t535))))) = some r := h
 clear h
 replace H := Option.bind_eq_some_iff.mp H
 obtain ⟨t534, A30, H⟩ := H
 replace H : (if t534 < 0 then (some (-1)) else ((laws_heldFloorS.f k l0_1 t534).bind fun t535 => (if t535 < 0 then (some (-1)) else (some t535)))) = some r := H
 have A3 := zm A30
 clear A30
 by_cases c4 : t534 < 0
 ·rw [if_pos c4] at H
  have c4b0 : decide (t534 < 0) = true := decide_eq_true c4
  clear c4
  obtain rfl := Option.some.inj H
  go_enter Try.func26, Try.ntmps26
  go_wp2_with (first | ((with_reducible refine gate_dst (N := 2) rfl ?_); refine zbox 2 #[.slice A0_0 l0_0.length c0_0, .slice A0_1 l0_1.length c0_1] 32 ?_; intro gb533 hg w5 hbox hb; have BK533 := zm (hbox); have GW533 := zge w hg zB; have GE533 := zge w hg zB; replace HB := zm (below_step zB hb); clear hb hbox hg; have hcz6_0 : w5.cell? ⟨gb533, 0, none⟩ = some (.slice A0_0 l0_0.length c0_0) := (blk_cell BK533.out 0).trans rfl; have hcz6_1 : w5.cell? ⟨gb533, 1, none⟩ = some (.slice A0_1 l0_1.length c0_1) := (blk_cell BK533.out 1).trans rfl; have hfz6_0 := blk_frozen BK533.out 0; have hfz6_1 := blk_frozen BK533.out 1) | ((with_reducible refine gate_callee (f := 70) rfl ?_); refine zg (some 8) #[.slice A0_0 l0_0.length c0_0, .int .i64 a1] Try.func70 ?_; (with_reducible refine (laws_heldItemS.calls k _ _ l0_0 a1 t534 _ (zk (Kd.C_below HR0_0.out HB.out)) HC0_0.out A3.out).mono ?_); rintro e w7 ⟨rfl, hb⟩; refine ⟨_, rfl, ?_⟩; replace BK533 := zm (blk_below (zb BK533) hb); replace HB := zm (below_step zB hb); clear hb))
  go_ret
  exact ⟨zE, zB⟩
 ·rw [if_neg c4] at H
  have c4b0 : decide (t534 < 0) = false := decide_eq_false c4
  clear c4
  replace H := Option.bind_eq_some_iff.mp H
  obtain ⟨t535, A80, H⟩ := H
  replace H : (if t535 < 0 then (some (-1)) else (some t535)) = some r := H
  have A8 := zm A80
  clear A80
  by_cases c9 : t535 < 0
  ·rw [if_pos c9] at H
   have c9b0 : decide (t535 < 0) = true := decide_eq_true c9
   clear c9
   obtain rfl := Option.some.inj H
   go_enter Try.func26, Try.ntmps26
   go_wp2_with (first | ((with_reducible refine gate_dst (N := 2) rfl ?_); refine zbox 2 #[.slice A0_0 l0_0.length c0_0, .slice A0_1 l0_1.length c0_1] 32 ?_; intro gb533 hg w10 hbox hb; have BK533 := zm (hbox); have GW533 := zge w hg zB; have GE533 := zge w hg zB; replace HB := zm (below_step zB hb); clear hb hbox hg; have hcz11_0 : w10.cell? ⟨gb533, 0, none⟩ = some (.slice A0_0 l0_0.length c0_0) := (blk_cell BK533.out 0).trans rfl; have hcz11_1 : w10.cell? ⟨gb533, 1, none⟩ = some (.slice A0_1 l0_1.length c0_1) := (blk_cell BK533.out 1).trans rfl; have hfz11_0 := blk_frozen BK533.out 0; have hfz11_1 := blk_frozen BK533.out 1) | ((with_reducible refine gate_callee (f := 70) rfl ?_); refine zg (some 8) #[.slice A0_0 l0_0.length c0_0, .int .i64 a1] Try.func70 ?_; (with_reducible refine (laws_heldItemS.calls k _ _ l0_0 a1 t534 _ (zk (Kd.C_below HR0_0.out HB.out)) HC0_0.out A3.out).mono ?_); rintro e w12 ⟨rfl, hb⟩; refine ⟨_, rfl, ?_⟩; replace BK533 := zm (blk_below (zb BK533) hb); replace HB := zm (below_step zB hb); clear hb; have hcz13_0 : w12.cell? ⟨gb533, 0, none⟩ = some (.slice A0_0 l0_0.length c0_0) := (blk_cell BK533.out 0).trans rfl; have hcz13_1 : w12.cell? ⟨gb533, 1, none⟩ = some (.slice A0_1 l0_1.length c0_1) := (blk_cell BK533.out 1).trans rfl; have hfz13_0 := blk_frozen BK533.out 0; have hfz13_1 := blk_frozen BK533.out 1) | ((with_reducible refine gate_callee (f := 71) rfl ?_); refine zg (some 14) #[.slice A0_1 l0_1.length c0_1, .int .i64 t534] Try.func71 ?_; (with_reducible refine (laws_heldFloorS.calls k _ _ l0_1 t534 t535 _ (zk (Kd.C_below HR0_1.out HB.out)) HC0_1.out A8.out).mono ?_); rintro e w' ⟨rfl, ⟨nd, rfl⟩⟩; refine ⟨_, rfl, ?_⟩))
   go_ret
   exact ⟨zE, zB⟩
  ·rw [if_neg c9] at H
   have c9b0 : decide (t535 < 0) = false := decide_eq_false c9
   clear c9
   obtain rfl := Option.some.inj H
   go_enter Try.func26, Try.ntmps26
   go_wp2_with (first | ((with_reducible refine gate_dst (N := 2) rfl ?_); refine zbox 2 #[.slice A0_0 l0_0.length c0_0, .slice A0_1 l0_1.length c0_1] 32 ?_; intro gb533 hg w14 hbox hb; have BK533 := zm (hbox); have GW533 := zge w hg zB; have GE533 := zge w hg zB; replace HB := zm (below_step zB hb); clear hb hbox hg; have hcz15_0 : w14.cell? ⟨gb533, 0, none⟩ = some (.slice A0_0 l0_0.length c0_0) := (blk_cell BK533.out 0).trans rfl; have hcz15_1 : w14.cell? ⟨gb533, 1, none⟩ = some (.slice A0_1 l0_1.length c0_1) := (blk_cell BK533.out 1).trans rfl; have hfz15_0 := blk_frozen BK533.out 0; have hfz15_1 := blk_frozen BK533.out 1) | ((with_reducible refine gate_callee (f := 70) rfl ?_); refine zg (some 8) #[.slice A0_0 l0_0.length c0_0, .int .i64 a1] Try.func70 ?_; (with_reducible refine (laws_heldItemS.calls k _ _ l0_0 a1 t534 _ (zk (Kd.C_below HR0_0.out HB.out)) HC0_0.out A3.out).mono ?_); rintro e w16 ⟨rfl, hb⟩; refine ⟨_, rfl, ?_⟩; replace BK533 := zm (blk_below (zb BK533) hb); replace HB := zm (below_step zB hb); clear hb; have hcz17_0 : w16.cell? ⟨gb533, 0, none⟩ = some (.slice A0_0 l0_0.length c0_0) := (blk_cell BK533.out 0).trans rfl; have hcz17_1 : w16.cell? ⟨gb533, 1, none⟩ = some (.slice A0_1 l0_1.length c0_1) := (blk_cell BK533.out 1).trans rfl; have hfz17_0 := blk_frozen BK533.out 0; have hfz17_1 := blk_frozen BK533.out 1) | ((with_reducible refine gate_callee (f := 71) rfl ?_); refine zg (some 14) #[.slice A0_1 l0_1.length c0_1, .int .i64 t534] Try.func71 ?_; (with_reducible refine (laws_heldFloorS.calls k _ _ l0_1 t534 t535 _ (zk (Kd.C_below HR0_1.out HB.out)) HC0_1.out A8.out).mono ?_); rintro e w' ⟨rfl, ⟨nd, rfl⟩⟩; refine ⟨_, rfl, ?_⟩))
   go_ret
   exact ⟨zE, zB⟩

end Go.Proofs.Ytgapdegniepjiaa.P
