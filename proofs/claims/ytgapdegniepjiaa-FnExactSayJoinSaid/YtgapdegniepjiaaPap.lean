-- by a program of this session, for this seat
import Derived.Test.YtgapdegniepjiaaZ
import Derived.Test.YtgapdegniepjiaaP0
import Derived.Test.YtgapdegniepjiaaPac
import Derived.Test.YtgapdegniepjiaaPal
import Derived.Test.YtgapdegniepjiaaPam
namespace Go.Proofs.Ytgapdegniepjiaa.P
open Go.RowKit Go.Proofs.YtgapdegniepjiaaW.PrintWords Go.Proofs.YtgapdegniepjiaaW.PrintLast Go.Proofs.YtgapdegniepjiaaW.PrintMore Go.Proofs.Ytgapdegniepjiaa.Z
attribute [local go_sem] max2_int min2_int max_two min_two max_three min_three max_four min_four   -- for this text's walks alone
set_option linter.unusedVariables false
set_option linter.unusedSimpArgs false

/-! ### impl_SayJoin: function 32 -/
def impl_SayJoin.f (k : Nat) (l0_0 : List (S68)) (l0_1 : List (S72)) (a1 : Int) : Option ((List (S68)) × (List (S72)) × Int) := (impl_present.f k l0_0 l0_1 a1).bind fun bt818 => (if bt818.2.2.2.2.2 = 1 then (some (([] : List (S68)), ([] : List (S72)), 1)) else (if bt818.2.2.2.2.2 = 0 then (some (([] : List (S68)), ([] : List (S72)), 2)) else ((impl_FloorOf.f k l0_0 l0_1 a1).bind fun t825 => ((impl_EntryOf.f k l0_0 l0_1 a1).bind fun bt826 => (if bt826.2.2.2.2.2 = true then (if bt826.1 = 1000 then (some (([] : List (S68)), ([] : List (S72)), 4)) else ((impl_saying.f a1 (wrap64 (bt826.1 + 1)) 0 0 0 (⟨#[]⟩ : ByteArray)).bind fun bt833 => (some (bt833.1, bt833.2.1, bt833.2.2)))) else (if t825 = 1000 then (some (([] : List (S68)), ([] : List (S72)), 4)) else ((impl_saying.f a1 (wrap64 (t825 + 1)) 0 0 0 (⟨#[]⟩ : ByteArray)).bind fun bt840 => (some (bt840.1, bt840.2.1, bt840.2.2)))))))))
theorem impl_SayJoin.mono : ∀ a0 a1 a2 k, LeO (impl_SayJoin.f k a0 a1 a2) (impl_SayJoin.f (k + 1) a0 a1 a2) := by
 intro a0 a1 a2 k
 unfold impl_SayJoin.f
 repeat' first
   | (with_reducible exact impl_EntryOf.mono _ _ _ _)
   | (with_reducible exact impl_FloorOf.mono _ _ _ _)
   | (with_reducible exact impl_present.mono _ _ _ _)
   | (with_reducible exact LeO.refl _)
   | (with_reducible exact LeO.none _)
   | (with_reducible refine LeO.ite ?_ ?_)
   | (with_reducible refine LeO.bind ?_ (fun _ => ?_))
   | exact impl_EntryOf.mono _ _ _ _
   | exact impl_FloorOf.mono _ _ _ _
   | exact impl_present.mono _ _ _ _
   | exact LeO.none _
   | refine LeO.ite ?_ ?_
   | refine LeO.bind ?_ (fun _ => ?_)
set_option maxHeartbeats 8000000 in
set_option maxRecDepth 100000 in
theorem impl_SayJoin.calls (k : Nat) (A0_0 : Option Addr) (c0_0 : Nat) (l0_0 : List (S68)) (A0_1 : Option Addr) (c0_1 : Nat) (l0_1 : List (S72)) (a1 : Int) (r1 : List (S68)) (r2 : List (S72)) (r3 : Int) (w : World) (hr0_0 : Kd.C k68 w A0_0 l0_0.length l0_0) (hc0_0 : l0_0.length ≤ c0_0) (hr0_1 : Kd.C k72 w A0_1 l0_1.length l0_1) (hc0_1 : l0_1.length ≤ c0_1) (h : impl_SayJoin.f k l0_0 l0_1 a1 = some (r1, r2, r3)) :
  Calls Try.prog 32 #[.agg #[.slice A0_0 l0_0.length c0_0, .slice A0_1 l0_1.length c0_1], .int .i64 a1] w fun e w' => ∃ v0_ v1_ : Value, e = .returned (.tuple #[.agg #[v0_, v1_], .int .i64 r3]) ∧ Kd.R k68 68 w' w.heap.size (fun _ => True) v0_ r1 ∧ Kd.R k72 72 w' w.heap.size (fun _ => True) v1_ r2 ∧ Below w.heap.size w w' := by
 have hu32 := Try.underlying32
 have hu66 := Try.underlying66
 have HR0_0 := zm hr0_0
 have HC0_0 := zm hc0_0
 clear hr0_0 hc0_0
 have HR0_1 := zm hr0_1
 have HC0_1 := zm hc0_1
 clear hr0_1 hc0_1
 have HB := zm (Below.refl w.heap.size w)
 have H : ((impl_present.f k l0_0 l0_1 a1).bind fun bt818 => (if bt818.2.2.2.2.2 = 1 then (some (([] : List (S68)), ([] : List (S72)), 1)) else (if bt818.2.2.2.2.2 = 0 then (some (([] : List (S68)), ([] : List (S72)), 2)) else ((impl_FloorOf.f k l0_0 l0_1 a1).bind fun t825 => ((impl_EntryOf.f k l0_0 l0_1 a1).bind fun bt826 => (if bt826.2.2.2.2.2 = true then (if bt826.1 = 1000 then (some (([] : List (S68)), ([] : List (S72)), 4)) else ((impl_saying.f a1 (wrap64 (bt826.1 + 1)) 0 0 0 (⟨#[]⟩ : ByteArray)).bind fun bt833 => (some (bt833.1, bt833.2.1, bt833.2.2)))) else (if t825 = 1000 then (some (([] : List (S68)), ([] : List (S72)), 4)) else ((impl_saying.f a1 (wrap64 (t825 + 1)) 0 0 0 (⟨#[]⟩ : ByteArray)).bind fun bt840 => (some (bt840.1, bt840.2.1, bt840.2.2)))))))))) = some (r1, r2, r3) := h
 clear h
 replace H := Option.bind_eq_some_iff.mp H
 obtain ⟨⟨t818, t819, t820, t821, t822, t823⟩, A30, H⟩ := H
 replace H : (if t823 = 1 then (some (([] : List (S68)), ([] : List (S72)), 1)) else (if t823 = 0 then (some (([] : List (S68)), ([] : List (S72)), 2)) else ((impl_FloorOf.f k l0_0 l0_1 a1).bind fun t825 => ((impl_EntryOf.f k l0_0 l0_1 a1).bind fun bt826 => (if bt826.2.2.2.2.2 = true then (if bt826.1 = 1000 then (some (([] : List (S68)), ([] : List (S72)), 4)) else ((impl_saying.f a1 (wrap64 (bt826.1 + 1)) 0 0 0 (⟨#[]⟩ : ByteArray)).bind fun bt833 => (some (bt833.1, bt833.2.1, bt833.2.2)))) else (if t825 = 1000 then (some (([] : List (S68)), ([] : List (S72)), 4)) else ((impl_saying.f a1 (wrap64 (t825 + 1)) 0 0 0 (⟨#[]⟩ : ByteArray)).bind fun bt840 => (some (bt840.1, bt840.2.1, bt840.2.2))))))))) = some (r1, r2, r3) := H
 have A3 := zm A30
 clear A30
 by_cases c4 : t823 = 1
 ·rw [if_pos c4] at H
  have c4b0 : (t823 == 1) = true := beq_iff_eq.mpr c4
  have c4b1 : (t823 != 1) = false := bne_eq_false_iff_eq.mpr c4
  clear c4
  simp only [Option.some.injEq, Prod.mk.injEq] at H
  obtain ⟨rfl, rfl, rfl⟩ := H
  go_enter Try.func32, Try.ntmps32
  go_wp2_with (first | ((with_reducible refine gate_dst (N := 2) rfl ?_); refine zbox 2 #[.slice A0_0 l0_0.length c0_0, .slice A0_1 l0_1.length c0_1] 32 ?_; intro gb816 hg w5 hbox hb; have BK816 := zm (hbox); have GW816 := zge w hg zB; have GE816 := zge w hg zB; replace HB := zm (below_step zB hb); clear hb hbox hg) | ((with_reducible refine gate_dst (N := 4) rfl ?_); refine zbox 4 #[.slice none 0 0, .slice none 0 0] 32 ?_; intro gb817 hg w6 hbox hb; have BK817 := zm (hbox); have GW817 := zge w hg zB; have GE817 := zge w hg zB; replace HB := zm (below_step zB hb); have NB816_817 := zlt hg (zb BK816); have NB817_816 := zgt hg (zb BK816); replace BK816 := zm (blk_below (zb BK816) hb); clear hb hbox hg; have hnb7 := NB816_817.out; have hnc7 := NB817_816.out; have hcz8_0 : w6.cell? ⟨gb816, 0, none⟩ = some (.slice A0_0 l0_0.length c0_0) := (blk_cell BK816.out 0).trans rfl; have hcz8_1 : w6.cell? ⟨gb816, 1, none⟩ = some (.slice A0_1 l0_1.length c0_1) := (blk_cell BK816.out 1).trans rfl; have hfz8_0 := blk_frozen BK816.out 0; have hfz8_1 := blk_frozen BK816.out 1) | ((with_reducible refine gate_callee (f := 68) rfl ?_); refine zg (some 14) #[.agg #[.slice A0_0 l0_0.length c0_0, .slice A0_1 l0_1.length c0_1], .int .i64 a1] Try.func68 ?_; (with_reducible refine (impl_present.calls k _ _ l0_0 _ _ l0_1 a1 t818 t819 t820 t821 t822 t823 _ (zk (Kd.C_below HR0_0.out HB.out)) HC0_0.out (zk (Kd.C_below HR0_1.out HB.out)) HC0_1.out A3.out).mono ?_); rintro e w9 ⟨rfl, hb⟩; refine ⟨_, rfl, ?_⟩; replace BK816 := zm (blk_below (zb BK816) hb); replace BK817 := zm (blk_below (zb BK817) hb); replace HB := zm (below_step zB hb); clear hb) | ((with_reducible refine gate_dst (N := 6) rfl ?_); refine zbox 6 #[.int .i64 0, .int .i64 0, .int .i64 0, .int .i64 0, .string (⟨#[]⟩ : ByteArray)] 66 ?_; intro gb824 hg w10 hbox hb; have BK824 := zm (hbox); have GW824 := zge w hg zB; have GE824 := zge w hg zB; replace HB := zm (below_step zB hb); have NB816_824 := zlt hg (zb BK816); have NB824_816 := zgt hg (zb BK816); replace BK816 := zm (blk_below (zb BK816) hb); have NB817_824 := zlt hg (zb BK817); have NB824_817 := zgt hg (zb BK817); replace BK817 := zm (blk_below (zb BK817) hb); clear hb hbox hg; have hnb11 := NB824_816.out; have hnc11 := NB816_824.out; have hnb12 := NB824_817.out; have hnc12 := NB817_824.out; have hcz13_0 : w10.cell? ⟨gb824, 0, none⟩ = some (.int .i64 0) := (blk_cell BK824.out 0).trans rfl; have hcz13_1 : w10.cell? ⟨gb824, 1, none⟩ = some (.int .i64 0) := (blk_cell BK824.out 1).trans rfl; have hcz13_2 : w10.cell? ⟨gb824, 2, none⟩ = some (.int .i64 0) := (blk_cell BK824.out 2).trans rfl; have hcz13_3 : w10.cell? ⟨gb824, 3, none⟩ = some (.int .i64 0) := (blk_cell BK824.out 3).trans rfl; have hcz13_4 : w10.cell? ⟨gb824, 4, none⟩ = some (.string (⟨#[]⟩ : ByteArray)) := (blk_cell BK824.out 4).trans rfl; have hfz13_0 := blk_frozen BK824.out 0; have hfz13_1 := blk_frozen BK824.out 1; have hfz13_2 := blk_frozen BK824.out 2; have hfz13_3 := blk_frozen BK824.out 3; have hfz13_4 := blk_frozen BK824.out 4; have hcz14_0 : w10.cell? ⟨gb817, 0, none⟩ = some (.slice none 0 0) := (blk_cell BK817.out 0).trans rfl; have hcz14_1 : w10.cell? ⟨gb817, 1, none⟩ = some (.slice none 0 0) := (blk_cell BK817.out 1).trans rfl; have hfz14_0 := blk_frozen BK817.out 0; have hfz14_1 := blk_frozen BK817.out 1))
  refine bodyPost_ret (results_ct rfl _ _ gb817 32 #[.slice none 0 0, .slice none 0 0] (0, 0) _ rfl (zput (zput (zfar (zfar (zfar (zfar (zfar (zb BK817) NB817_824) NB817_824) NB817_824) NB817_824) NB817_824) 0) 1) Try.underlying32 rfl (by kernel_rfl)) rfl ?_
  exact ⟨_, _, zE, by first | exact Kd.R_nil _ _ _ _ _ | exact Kd.N_nil _ _ _ _ _ | exact Kd.V_nil _ _ _ _ _ | exact Kd.Q_nil _ _ _ _ _ | exact Kd.S_nil _ _ _ _ _, by first | exact Kd.R_nil _ _ _ _ _ | exact Kd.N_nil _ _ _ _ _ | exact Kd.V_nil _ _ _ _ _ | exact Kd.Q_nil _ _ _ _ _ | exact Kd.S_nil _ _ _ _ _, zB⟩
 ·rw [if_neg c4] at H
  have c4b0 : (t823 == 1) = false := beq_eq_false_iff_ne.mpr c4
  have c4b1 : (t823 != 1) = true := bne_iff_ne.mpr c4
  by_cases c15 : t823 = 0
  ·rw [if_pos c15] at H
   have c15b0 : (t823 == 0) = true := beq_iff_eq.mpr c15
   have c15b1 : (t823 != 0) = false := bne_eq_false_iff_eq.mpr c15
   clear c15
   simp only [Option.some.injEq, Prod.mk.injEq] at H
   obtain ⟨rfl, rfl, rfl⟩ := H
   go_enter Try.func32, Try.ntmps32
   go_wp2_with (first | ((with_reducible refine gate_dst (N := 2) rfl ?_); refine zbox 2 #[.slice A0_0 l0_0.length c0_0, .slice A0_1 l0_1.length c0_1] 32 ?_; intro gb816 hg w16 hbox hb; have BK816 := zm (hbox); have GW816 := zge w hg zB; have GE816 := zge w hg zB; replace HB := zm (below_step zB hb); clear hb hbox hg) | ((with_reducible refine gate_dst (N := 4) rfl ?_); refine zbox 4 #[.slice none 0 0, .slice none 0 0] 32 ?_; intro gb817 hg w17 hbox hb; have BK817 := zm (hbox); have GW817 := zge w hg zB; have GE817 := zge w hg zB; replace HB := zm (below_step zB hb); have NB816_817 := zlt hg (zb BK816); have NB817_816 := zgt hg (zb BK816); replace BK816 := zm (blk_below (zb BK816) hb); clear hb hbox hg; have hnb18 := NB816_817.out; have hnc18 := NB817_816.out; have hcz19_0 : w17.cell? ⟨gb816, 0, none⟩ = some (.slice A0_0 l0_0.length c0_0) := (blk_cell BK816.out 0).trans rfl; have hcz19_1 : w17.cell? ⟨gb816, 1, none⟩ = some (.slice A0_1 l0_1.length c0_1) := (blk_cell BK816.out 1).trans rfl; have hfz19_0 := blk_frozen BK816.out 0; have hfz19_1 := blk_frozen BK816.out 1) | ((with_reducible refine gate_callee (f := 68) rfl ?_); refine zg (some 14) #[.agg #[.slice A0_0 l0_0.length c0_0, .slice A0_1 l0_1.length c0_1], .int .i64 a1] Try.func68 ?_; (with_reducible refine (impl_present.calls k _ _ l0_0 _ _ l0_1 a1 t818 t819 t820 t821 t822 t823 _ (zk (Kd.C_below HR0_0.out HB.out)) HC0_0.out (zk (Kd.C_below HR0_1.out HB.out)) HC0_1.out A3.out).mono ?_); rintro e w20 ⟨rfl, hb⟩; refine ⟨_, rfl, ?_⟩; replace BK816 := zm (blk_below (zb BK816) hb); replace BK817 := zm (blk_below (zb BK817) hb); replace HB := zm (below_step zB hb); clear hb) | ((with_reducible refine gate_dst (N := 6) rfl ?_); refine zbox 6 #[.int .i64 0, .int .i64 0, .int .i64 0, .int .i64 0, .string (⟨#[]⟩ : ByteArray)] 66 ?_; intro gb824 hg w21 hbox hb; have BK824 := zm (hbox); have GW824 := zge w hg zB; have GE824 := zge w hg zB; replace HB := zm (below_step zB hb); have NB816_824 := zlt hg (zb BK816); have NB824_816 := zgt hg (zb BK816); replace BK816 := zm (blk_below (zb BK816) hb); have NB817_824 := zlt hg (zb BK817); have NB824_817 := zgt hg (zb BK817); replace BK817 := zm (blk_below (zb BK817) hb); clear hb hbox hg; have hnb22 := NB824_816.out; have hnc22 := NB816_824.out; have hnb23 := NB824_817.out; have hnc23 := NB817_824.out; have hcz24_0 : w21.cell? ⟨gb824, 0, none⟩ = some (.int .i64 0) := (blk_cell BK824.out 0).trans rfl; have hcz24_1 : w21.cell? ⟨gb824, 1, none⟩ = some (.int .i64 0) := (blk_cell BK824.out 1).trans rfl; have hcz24_2 : w21.cell? ⟨gb824, 2, none⟩ = some (.int .i64 0) := (blk_cell BK824.out 2).trans rfl; have hcz24_3 : w21.cell? ⟨gb824, 3, none⟩ = some (.int .i64 0) := (blk_cell BK824.out 3).trans rfl; have hcz24_4 : w21.cell? ⟨gb824, 4, none⟩ = some (.string (⟨#[]⟩ : ByteArray)) := (blk_cell BK824.out 4).trans rfl; have hfz24_0 := blk_frozen BK824.out 0; have hfz24_1 := blk_frozen BK824.out 1; have hfz24_2 := blk_frozen BK824.out 2; have hfz24_3 := blk_frozen BK824.out 3; have hfz24_4 := blk_frozen BK824.out 4; have hcz25_0 : w21.cell? ⟨gb817, 0, none⟩ = some (.slice none 0 0) := (blk_cell BK817.out 0).trans rfl; have hcz25_1 : w21.cell? ⟨gb817, 1, none⟩ = some (.slice none 0 0) := (blk_cell BK817.out 1).trans rfl; have hfz25_0 := blk_frozen BK817.out 0; have hfz25_1 := blk_frozen BK817.out 1))
   refine bodyPost_ret (results_ct rfl _ _ gb817 32 #[.slice none 0 0, .slice none 0 0] (0, 0) _ rfl (zput (zput (zfar (zfar (zfar (zfar (zfar (zb BK817) NB817_824) NB817_824) NB817_824) NB817_824) NB817_824) 0) 1) Try.underlying32 rfl (by kernel_rfl)) rfl ?_
   exact ⟨_, _, zE, by first | exact Kd.R_nil _ _ _ _ _ | exact Kd.N_nil _ _ _ _ _ | exact Kd.V_nil _ _ _ _ _ | exact Kd.Q_nil _ _ _ _ _ | exact Kd.S_nil _ _ _ _ _, by first | exact Kd.R_nil _ _ _ _ _ | exact Kd.N_nil _ _ _ _ _ | exact Kd.V_nil _ _ _ _ _ | exact Kd.Q_nil _ _ _ _ _ | exact Kd.S_nil _ _ _ _ _, zB⟩
  ·rw [if_neg c15] at H
   have c15b0 : (t823 == 0) = false := beq_eq_false_iff_ne.mpr c15
   have c15b1 : (t823 != 0) = true := bne_iff_ne.mpr c15
   replace H := Option.bind_eq_some_iff.mp H
   obtain ⟨t825, A260, H⟩ := H
   replace H : ((impl_EntryOf.f k l0_0 l0_1 a1).bind fun bt826 => (if bt826.2.2.2.2.2 = true then (if bt826.1 = 1000 then (some (([] : List (S68)), ([] : List (S72)), 4)) else ((impl_saying.f a1 (wrap64 (bt826.1 + 1)) 0 0 0 (⟨#[]⟩ : ByteArray)).bind fun bt833 => (some (bt833.1, bt833.2.1, bt833.2.2)))) else (if t825 = 1000 then (some (([] : List (S68)), ([] : List (S72)), 4)) else ((impl_saying.f a1 (wrap64 (t825 + 1)) 0 0 0 (⟨#[]⟩ : ByteArray)).bind fun bt840 => (some (bt840.1, bt840.2.1, bt840.2.2)))))) = some (r1, r2, r3) := H
   have A26 := zm A260
   clear A260
   replace H := Option.bind_eq_some_iff.mp H
   obtain ⟨⟨t826, t827, t828, t829, t830, t831⟩, A270, H⟩ := H
   replace H : (if t831 = true then (if t826 = 1000 then (some (([] : List (S68)), ([] : List (S72)), 4)) else ((impl_saying.f a1 (wrap64 (t826 + 1)) 0 0 0 (⟨#[]⟩ : ByteArray)).bind fun bt833 => (some (bt833.1, bt833.2.1, bt833.2.2)))) else (if t825 = 1000 then (some (([] : List (S68)), ([] : List (S72)), 4)) else ((impl_saying.f a1 (wrap64 (t825 + 1)) 0 0 0 (⟨#[]⟩ : ByteArray)).bind fun bt840 => (some (bt840.1, bt840.2.1, bt840.2.2))))) = some (r1, r2, r3) := H
   have A27 := zm A270
   clear A270
   by_cases c28 : t831 = true
   ·subst c28
    have H1 : (if t826 = 1000 then (some (([] : List (S68)), ([] : List (S72)), 4)) else ((impl_saying.f a1 (wrap64 (t826 + 1)) 0 0 0 (⟨#[]⟩ : ByteArray)).bind fun bt833 => (some (bt833.1, bt833.2.1, bt833.2.2)))) = some (r1, r2, r3) := by rw [if_pos rfl] at H; exact H
    clear H
    have H := H1
    clear H1
    by_cases c29 : t826 = 1000
    ·rw [if_pos c29] at H
     have c29b0 : (t826 == 1000) = true := beq_iff_eq.mpr c29
     have c29b1 : (t826 != 1000) = false := bne_eq_false_iff_eq.mpr c29
     clear c29
     simp only [Option.some.injEq, Prod.mk.injEq] at H
     obtain ⟨rfl, rfl, rfl⟩ := H
     go_enter Try.func32, Try.ntmps32
     go_wp2_with (first | ((with_reducible refine gate_dst (N := 2) rfl ?_); refine zbox 2 #[.slice A0_0 l0_0.length c0_0, .slice A0_1 l0_1.length c0_1] 32 ?_; intro gb816 hg w30 hbox hb; have BK816 := zm (hbox); have GW816 := zge w hg zB; have GE816 := zge w hg zB; replace HB := zm (below_step zB hb); clear hb hbox hg) | ((with_reducible refine gate_dst (N := 4) rfl ?_); refine zbox 4 #[.slice none 0 0, .slice none 0 0] 32 ?_; intro gb817 hg w31 hbox hb; have BK817 := zm (hbox); have GW817 := zge w hg zB; have GE817 := zge w hg zB; replace HB := zm (below_step zB hb); have NB816_817 := zlt hg (zb BK816); have NB817_816 := zgt hg (zb BK816); replace BK816 := zm (blk_below (zb BK816) hb); clear hb hbox hg; have hnb32 := NB816_817.out; have hnc32 := NB817_816.out; have hcz33_0 : w31.cell? ⟨gb816, 0, none⟩ = some (.slice A0_0 l0_0.length c0_0) := (blk_cell BK816.out 0).trans rfl; have hcz33_1 : w31.cell? ⟨gb816, 1, none⟩ = some (.slice A0_1 l0_1.length c0_1) := (blk_cell BK816.out 1).trans rfl; have hfz33_0 := blk_frozen BK816.out 0; have hfz33_1 := blk_frozen BK816.out 1) | ((with_reducible refine gate_callee (f := 68) rfl ?_); refine zg (some 14) #[.agg #[.slice A0_0 l0_0.length c0_0, .slice A0_1 l0_1.length c0_1], .int .i64 a1] Try.func68 ?_; (with_reducible refine (impl_present.calls k _ _ l0_0 _ _ l0_1 a1 t818 t819 t820 t821 t822 t823 _ (zk (Kd.C_below HR0_0.out HB.out)) HC0_0.out (zk (Kd.C_below HR0_1.out HB.out)) HC0_1.out A3.out).mono ?_); rintro e w34 ⟨rfl, hb⟩; refine ⟨_, rfl, ?_⟩; replace BK816 := zm (blk_below (zb BK816) hb); replace BK817 := zm (blk_below (zb BK817) hb); replace HB := zm (below_step zB hb); clear hb) | ((with_reducible refine gate_dst (N := 6) rfl ?_); refine zbox 6 #[.int .i64 0, .int .i64 0, .int .i64 0, .int .i64 0, .string (⟨#[]⟩ : ByteArray)] 66 ?_; intro gb824 hg w35 hbox hb; have BK824 := zm (hbox); have GW824 := zge w hg zB; have GE824 := zge w hg zB; replace HB := zm (below_step zB hb); have NB816_824 := zlt hg (zb BK816); have NB824_816 := zgt hg (zb BK816); replace BK816 := zm (blk_below (zb BK816) hb); have NB817_824 := zlt hg (zb BK817); have NB824_817 := zgt hg (zb BK817); replace BK817 := zm (blk_below (zb BK817) hb); clear hb hbox hg; have hnb36 := NB824_816.out; have hnc36 := NB816_824.out; have hnb37 := NB824_817.out; have hnc37 := NB817_824.out; have hcz38_0 : w35.cell? ⟨gb824, 0, none⟩ = some (.int .i64 0) := (blk_cell BK824.out 0).trans rfl; have hcz38_1 : w35.cell? ⟨gb824, 1, none⟩ = some (.int .i64 0) := (blk_cell BK824.out 1).trans rfl; have hcz38_2 : w35.cell? ⟨gb824, 2, none⟩ = some (.int .i64 0) := (blk_cell BK824.out 2).trans rfl; have hcz38_3 : w35.cell? ⟨gb824, 3, none⟩ = some (.int .i64 0) := (blk_cell BK824.out 3).trans rfl; have hcz38_4 : w35.cell? ⟨gb824, 4, none⟩ = some (.string (⟨#[]⟩ : ByteArray)) := (blk_cell BK824.out 4).trans rfl; have hfz38_0 := blk_frozen BK824.out 0; have hfz38_1 := blk_frozen BK824.out 1; have hfz38_2 := blk_frozen BK824.out 2; have hfz38_3 := blk_frozen BK824.out 3; have hfz38_4 := blk_frozen BK824.out 4; have hcz39_0 : w35.cell? ⟨gb816, 0, none⟩ = some (.slice A0_0 l0_0.length c0_0) := (blk_cell BK816.out 0).trans rfl; have hcz39_1 : w35.cell? ⟨gb816, 1, none⟩ = some (.slice A0_1 l0_1.length c0_1) := (blk_cell BK816.out 1).trans rfl; have hfz39_0 := blk_frozen BK816.out 0; have hfz39_1 := blk_frozen BK816.out 1) | ((with_reducible refine gate_callee (f := 77) rfl ?_); refine zg (some 26) #[.agg #[.slice A0_0 l0_0.length c0_0, .slice A0_1 l0_1.length c0_1], .int .i64 a1] Try.func77 ?_; (with_reducible refine (impl_FloorOf.calls k _ _ l0_0 _ _ l0_1 a1 t825 _ ?side1 HC0_0.out ?side3 HC0_1.out A26.out).mono ?_); (case side1 => exact Kd.C_below HR0_0.out zB); (case side3 => exact Kd.C_below HR0_1.out zB); rintro e w40 ⟨rfl, hb⟩; refine ⟨_, rfl, ?_⟩; replace BK816 := zm (blk_below (g := gb816) (o := .cells #[.slice A0_0 l0_0.length c0_0, .slice A0_1 l0_1.length c0_1] 32 (0, 0)) (zfar (zfar (zfar (zfar (zfar (zb BK816) NB816_824) NB816_824) NB816_824) NB816_824) NB816_824) hb); replace BK817 := zm (blk_below (g := gb817) (o := .cells #[.slice none 0 0, .slice none 0 0] 32 (0, 0)) (zfar (zfar (zfar (zfar (zfar (zb BK817) NB817_824) NB817_824) NB817_824) NB817_824) NB817_824) hb); replace BK824 := zm (blk_below (g := gb824) (o := .cells #[.int .i64 t818, .int .i64 t819, .int .i64 t820, .int .i64 t821, .string t822] 66 (0, 0)) (zput (zput (zput (zput (zput (zb BK824) 0) 1) 2) 3) 4) hb); replace HB := zm (below_step zB hb); clear hb; have hcz41_0 : w40.cell? ⟨gb816, 0, none⟩ = some (.slice A0_0 l0_0.length c0_0) := (blk_cell BK816.out 0).trans rfl; have hcz41_1 : w40.cell? ⟨gb816, 1, none⟩ = some (.slice A0_1 l0_1.length c0_1) := (blk_cell BK816.out 1).trans rfl; have hfz41_0 := blk_frozen BK816.out 0; have hfz41_1 := blk_frozen BK816.out 1) | ((with_reducible refine gate_callee (f := 78) rfl ?_); refine zg (some 30) #[.agg #[.slice A0_0 l0_0.length c0_0, .slice A0_1 l0_1.length c0_1], .int .i64 a1] Try.func78 ?_; (with_reducible refine (impl_EntryOf.calls k _ _ l0_0 _ _ l0_1 a1 t826 t827 t828 t829 t830 true _ (zk (Kd.C_below HR0_0.out HB.out)) HC0_0.out (zk (Kd.C_below HR0_1.out HB.out)) HC0_1.out A27.out).mono ?_); rintro e w42 ⟨rfl, hb⟩; refine ⟨_, rfl, ?_⟩; replace BK816 := zm (blk_below (zb BK816) hb); replace BK817 := zm (blk_below (zb BK817) hb); replace BK824 := zm (blk_below (zb BK824) hb); replace HB := zm (below_step zB hb); clear hb) | ((with_reducible refine gate_dst (N := 9) rfl ?_); refine zbox 9 #[.int .i64 0, .int .i64 0, .int .i64 0, .int .i64 0, .string (⟨#[]⟩ : ByteArray)] 66 ?_; intro gb832 hg w43 hbox hb; have BK832 := zm (hbox); have GW832 := zge w hg zB; have GE832 := zge w hg zB; replace HB := zm (below_step zB hb); have NB816_832 := zlt hg (zb BK816); have NB832_816 := zgt hg (zb BK816); replace BK816 := zm (blk_below (zb BK816) hb); have NB817_832 := zlt hg (zb BK817); have NB832_817 := zgt hg (zb BK817); replace BK817 := zm (blk_below (zb BK817) hb); have NB824_832 := zlt hg (zb BK824); have NB832_824 := zgt hg (zb BK824); replace BK824 := zm (blk_below (zb BK824) hb); clear hb hbox hg; have hnb44 := NB832_816.out; have hnc44 := NB816_832.out; have hnb45 := NB832_817.out; have hnc45 := NB817_832.out; have hnb46 := NB832_824.out; have hnc46 := NB824_832.out; have hcz47_0 : w43.cell? ⟨gb832, 0, none⟩ = some (.int .i64 0) := (blk_cell BK832.out 0).trans rfl; have hcz47_1 : w43.cell? ⟨gb832, 1, none⟩ = some (.int .i64 0) := (blk_cell BK832.out 1).trans rfl; have hcz47_2 : w43.cell? ⟨gb832, 2, none⟩ = some (.int .i64 0) := (blk_cell BK832.out 2).trans rfl; have hcz47_3 : w43.cell? ⟨gb832, 3, none⟩ = some (.int .i64 0) := (blk_cell BK832.out 3).trans rfl; have hcz47_4 : w43.cell? ⟨gb832, 4, none⟩ = some (.string (⟨#[]⟩ : ByteArray)) := (blk_cell BK832.out 4).trans rfl; have hfz47_0 := blk_frozen BK832.out 0; have hfz47_1 := blk_frozen BK832.out 1; have hfz47_2 := blk_frozen BK832.out 2; have hfz47_3 := blk_frozen BK832.out 3; have hfz47_4 := blk_frozen BK832.out 4; have hcz48_0 : w43.cell? ⟨gb817, 0, none⟩ = some (.slice none 0 0) := (blk_cell BK817.out 0).trans rfl; have hcz48_1 : w43.cell? ⟨gb817, 1, none⟩ = some (.slice none 0 0) := (blk_cell BK817.out 1).trans rfl; have hfz48_0 := blk_frozen BK817.out 0; have hfz48_1 := blk_frozen BK817.out 1))
     refine bodyPost_ret (results_ct rfl _ _ gb817 32 #[.slice none 0 0, .slice none 0 0] (0, 0) _ rfl (zput (zput (zfar (zfar (zfar (zfar (zfar (zb BK817) NB817_832) NB817_832) NB817_832) NB817_832) NB817_832) 0) 1) Try.underlying32 rfl (by kernel_rfl)) rfl ?_
     exact ⟨_, _, zE, by first | exact Kd.R_nil _ _ _ _ _ | exact Kd.N_nil _ _ _ _ _ | exact Kd.V_nil _ _ _ _ _ | exact Kd.Q_nil _ _ _ _ _ | exact Kd.S_nil _ _ _ _ _, by first | exact Kd.R_nil _ _ _ _ _ | exact Kd.N_nil _ _ _ _ _ | exact Kd.V_nil _ _ _ _ _ | exact Kd.Q_nil _ _ _ _ _ | exact Kd.S_nil _ _ _ _ _, zB⟩
    ·rw [if_neg c29] at H
     have c29b0 : (t826 == 1000) = false := beq_eq_false_iff_ne.mpr c29
     have c29b1 : (t826 != 1000) = true := bne_iff_ne.mpr c29
     replace H := Option.bind_eq_some_iff.mp H
     obtain ⟨⟨t833, t836, t839⟩, A490, H⟩ := H
     replace H : (some (t833, t836, t839)) = some (r1, r2, r3) := H
     have A49 := zm A490
     clear A490
     simp only [Option.some.injEq, Prod.mk.injEq] at H
     obtain ⟨rfl, rfl, rfl⟩ := H
     go_enter Try.func32, Try.ntmps32
     go_wp2_with (first | ((with_reducible refine gate_dst (N := 2) rfl ?_); refine zbox 2 #[.slice A0_0 l0_0.length c0_0, .slice A0_1 l0_1.length c0_1] 32 ?_; intro gb816 hg w50 hbox hb; have BK816 := zm (hbox); have GW816 := zge w hg zB; have GE816 := zge w hg zB; replace HB := zm (below_step zB hb); clear hb hbox hg) | ((with_reducible refine gate_dst (N := 4) rfl ?_); refine zbox 4 #[.slice none 0 0, .slice none 0 0] 32 ?_; intro gb817 hg w51 hbox hb; have BK817 := zm (hbox); have GW817 := zge w hg zB; have GE817 := zge w hg zB; replace HB := zm (below_step zB hb); have NB816_817 := zlt hg (zb BK816); have NB817_816 := zgt hg (zb BK816); replace BK816 := zm (blk_below (zb BK816) hb); clear hb hbox hg; have hnb52 := NB816_817.out; have hnc52 := NB817_816.out; have hcz53_0 : w51.cell? ⟨gb816, 0, none⟩ = some (.slice A0_0 l0_0.length c0_0) := (blk_cell BK816.out 0).trans rfl; have hcz53_1 : w51.cell? ⟨gb816, 1, none⟩ = some (.slice A0_1 l0_1.length c0_1) := (blk_cell BK816.out 1).trans rfl; have hfz53_0 := blk_frozen BK816.out 0; have hfz53_1 := blk_frozen BK816.out 1) | ((with_reducible refine gate_callee (f := 68) rfl ?_); refine zg (some 14) #[.agg #[.slice A0_0 l0_0.length c0_0, .slice A0_1 l0_1.length c0_1], .int .i64 a1] Try.func68 ?_; (with_reducible refine (impl_present.calls k _ _ l0_0 _ _ l0_1 a1 t818 t819 t820 t821 t822 t823 _ (zk (Kd.C_below HR0_0.out HB.out)) HC0_0.out (zk (Kd.C_below HR0_1.out HB.out)) HC0_1.out A3.out).mono ?_); rintro e w54 ⟨rfl, hb⟩; refine ⟨_, rfl, ?_⟩; replace BK816 := zm (blk_below (zb BK816) hb); replace BK817 := zm (blk_below (zb BK817) hb); replace HB := zm (below_step zB hb); clear hb) | ((with_reducible refine gate_dst (N := 6) rfl ?_); refine zbox 6 #[.int .i64 0, .int .i64 0, .int .i64 0, .int .i64 0, .string (⟨#[]⟩ : ByteArray)] 66 ?_; intro gb824 hg w55 hbox hb; have BK824 := zm (hbox); have GW824 := zge w hg zB; have GE824 := zge w hg zB; replace HB := zm (below_step zB hb); have NB816_824 := zlt hg (zb BK816); have NB824_816 := zgt hg (zb BK816); replace BK816 := zm (blk_below (zb BK816) hb); have NB817_824 := zlt hg (zb BK817); have NB824_817 := zgt hg (zb BK817); replace BK817 := zm (blk_below (zb BK817) hb); clear hb hbox hg; have hnb56 := NB824_816.out; have hnc56 := NB816_824.out; have hnb57 := NB824_817.out; have hnc57 := NB817_824.out; have hcz58_0 : w55.cell? ⟨gb824, 0, none⟩ = some (.int .i64 0) := (blk_cell BK824.out 0).trans rfl; have hcz58_1 : w55.cell? ⟨gb824, 1, none⟩ = some (.int .i64 0) := (blk_cell BK824.out 1).trans rfl; have hcz58_2 : w55.cell? ⟨gb824, 2, none⟩ = some (.int .i64 0) := (blk_cell BK824.out 2).trans rfl; have hcz58_3 : w55.cell? ⟨gb824, 3, none⟩ = some (.int .i64 0) := (blk_cell BK824.out 3).trans rfl; have hcz58_4 : w55.cell? ⟨gb824, 4, none⟩ = some (.string (⟨#[]⟩ : ByteArray)) := (blk_cell BK824.out 4).trans rfl; have hfz58_0 := blk_frozen BK824.out 0; have hfz58_1 := blk_frozen BK824.out 1; have hfz58_2 := blk_frozen BK824.out 2; have hfz58_3 := blk_frozen BK824.out 3; have hfz58_4 := blk_frozen BK824.out 4; have hcz59_0 : w55.cell? ⟨gb816, 0, none⟩ = some (.slice A0_0 l0_0.length c0_0) := (blk_cell BK816.out 0).trans rfl; have hcz59_1 : w55.cell? ⟨gb816, 1, none⟩ = some (.slice A0_1 l0_1.length c0_1) := (blk_cell BK816.out 1).trans rfl; have hfz59_0 := blk_frozen BK816.out 0; have hfz59_1 := blk_frozen BK816.out 1) | ((with_reducible refine gate_callee (f := 77) rfl ?_); refine zg (some 26) #[.agg #[.slice A0_0 l0_0.length c0_0, .slice A0_1 l0_1.length c0_1], .int .i64 a1] Try.func77 ?_; (with_reducible refine (impl_FloorOf.calls k _ _ l0_0 _ _ l0_1 a1 t825 _ ?side1 HC0_0.out ?side3 HC0_1.out A26.out).mono ?_); (case side1 => exact Kd.C_below HR0_0.out zB); (case side3 => exact Kd.C_below HR0_1.out zB); rintro e w60 ⟨rfl, hb⟩; refine ⟨_, rfl, ?_⟩; replace BK816 := zm (blk_below (g := gb816) (o := .cells #[.slice A0_0 l0_0.length c0_0, .slice A0_1 l0_1.length c0_1] 32 (0, 0)) (zfar (zfar (zfar (zfar (zfar (zb BK816) NB816_824) NB816_824) NB816_824) NB816_824) NB816_824) hb); replace BK817 := zm (blk_below (g := gb817) (o := .cells #[.slice none 0 0, .slice none 0 0] 32 (0, 0)) (zfar (zfar (zfar (zfar (zfar (zb BK817) NB817_824) NB817_824) NB817_824) NB817_824) NB817_824) hb); replace BK824 := zm (blk_below (g := gb824) (o := .cells #[.int .i64 t818, .int .i64 t819, .int .i64 t820, .int .i64 t821, .string t822] 66 (0, 0)) (zput (zput (zput (zput (zput (zb BK824) 0) 1) 2) 3) 4) hb); replace HB := zm (below_step zB hb); clear hb; have hcz61_0 : w60.cell? ⟨gb816, 0, none⟩ = some (.slice A0_0 l0_0.length c0_0) := (blk_cell BK816.out 0).trans rfl; have hcz61_1 : w60.cell? ⟨gb816, 1, none⟩ = some (.slice A0_1 l0_1.length c0_1) := (blk_cell BK816.out 1).trans rfl; have hfz61_0 := blk_frozen BK816.out 0; have hfz61_1 := blk_frozen BK816.out 1) | ((with_reducible refine gate_callee (f := 78) rfl ?_); refine zg (some 30) #[.agg #[.slice A0_0 l0_0.length c0_0, .slice A0_1 l0_1.length c0_1], .int .i64 a1] Try.func78 ?_; (with_reducible refine (impl_EntryOf.calls k _ _ l0_0 _ _ l0_1 a1 t826 t827 t828 t829 t830 true _ (zk (Kd.C_below HR0_0.out HB.out)) HC0_0.out (zk (Kd.C_below HR0_1.out HB.out)) HC0_1.out A27.out).mono ?_); rintro e w62 ⟨rfl, hb⟩; refine ⟨_, rfl, ?_⟩; replace BK816 := zm (blk_below (zb BK816) hb); replace BK817 := zm (blk_below (zb BK817) hb); replace BK824 := zm (blk_below (zb BK824) hb); replace HB := zm (below_step zB hb); clear hb) | ((with_reducible refine gate_dst (N := 9) rfl ?_); refine zbox 9 #[.int .i64 0, .int .i64 0, .int .i64 0, .int .i64 0, .string (⟨#[]⟩ : ByteArray)] 66 ?_; intro gb832 hg w63 hbox hb; have BK832 := zm (hbox); have GW832 := zge w hg zB; have GE832 := zge w hg zB; replace HB := zm (below_step zB hb); have NB816_832 := zlt hg (zb BK816); have NB832_816 := zgt hg (zb BK816); replace BK816 := zm (blk_below (zb BK816) hb); have NB817_832 := zlt hg (zb BK817); have NB832_817 := zgt hg (zb BK817); replace BK817 := zm (blk_below (zb BK817) hb); have NB824_832 := zlt hg (zb BK824); have NB832_824 := zgt hg (zb BK824); replace BK824 := zm (blk_below (zb BK824) hb); clear hb hbox hg; have hnb64 := NB832_816.out; have hnc64 := NB816_832.out; have hnb65 := NB832_817.out; have hnc65 := NB817_832.out; have hnb66 := NB832_824.out; have hnc66 := NB824_832.out; have hcz67_0 : w63.cell? ⟨gb832, 0, none⟩ = some (.int .i64 0) := (blk_cell BK832.out 0).trans rfl; have hcz67_1 : w63.cell? ⟨gb832, 1, none⟩ = some (.int .i64 0) := (blk_cell BK832.out 1).trans rfl; have hcz67_2 : w63.cell? ⟨gb832, 2, none⟩ = some (.int .i64 0) := (blk_cell BK832.out 2).trans rfl; have hcz67_3 : w63.cell? ⟨gb832, 3, none⟩ = some (.int .i64 0) := (blk_cell BK832.out 3).trans rfl; have hcz67_4 : w63.cell? ⟨gb832, 4, none⟩ = some (.string (⟨#[]⟩ : ByteArray)) := (blk_cell BK832.out 4).trans rfl; have hfz67_0 := blk_frozen BK832.out 0; have hfz67_1 := blk_frozen BK832.out 1; have hfz67_2 := blk_frozen BK832.out 2; have hfz67_3 := blk_frozen BK832.out 3; have hfz67_4 := blk_frozen BK832.out 4) | ((with_reducible refine gate_callee (f := 69) rfl ?_); refine zg (some 43) #[.int .i64 a1, .agg #[.int .i64 (wrap64 (t826 + 1)), .int .i64 0, .int .i64 0, .int .i64 0, .string (⟨#[]⟩ : ByteArray)]] Try.func69 ?_; (with_reducible refine (impl_saying.calls a1 (wrap64 (t826 + 1)) 0 0 0 (⟨#[]⟩ : ByteArray) t833 t836 t839 _ A49.out).mono ?_); rintro e w68 ⟨v834, v837, rfl, ho0, ho1, hb⟩; refine ⟨_, rfl, ?_⟩; have HO835 := zm (Kd.R_lower ho0 (below_size zB)); have HO838 := zm (Kd.R_lower ho1 (below_size zB)); replace BK816 := zm (blk_below (g := gb816) (o := .cells #[.slice A0_0 l0_0.length c0_0, .slice A0_1 l0_1.length c0_1] 32 (0, 0)) (zfar (zfar (zfar (zfar (zfar (zb BK816) NB816_832) NB816_832) NB816_832) NB816_832) NB816_832) hb); replace BK817 := zm (blk_below (g := gb817) (o := .cells #[.slice none 0 0, .slice none 0 0] 32 (0, 0)) (zfar (zfar (zfar (zfar (zfar (zb BK817) NB817_832) NB817_832) NB817_832) NB817_832) NB817_832) hb); replace BK824 := zm (blk_below (g := gb824) (o := .cells #[.int .i64 t818, .int .i64 t819, .int .i64 t820, .int .i64 t821, .string t822] 66 (0, 0)) (zfar (zfar (zfar (zfar (zfar (zb BK824) NB824_832) NB824_832) NB824_832) NB824_832) NB824_832) hb); replace BK832 := zm (blk_below (g := gb832) (o := .cells #[.int .i64 t826, .int .i64 t827, .int .i64 t828, .int .i64 t829, .string t830] 66 (0, 0)) (zput (zput (zput (zput (zput (zb BK832) 0) 1) 2) 3) 4) hb); replace HB := zm (below_step zB hb); clear hb ho0 ho1; obtain ⟨Ao69, co69, eo69⟩ := Kd.R_slice HO835.out; subst eo69; have hcz70_0 : w68.cell? ⟨gb817, 0, none⟩ = some (.slice none 0 0) := (blk_cell BK817.out 0).trans rfl; have hcz70_1 : w68.cell? ⟨gb817, 1, none⟩ = some (.slice none 0 0) := (blk_cell BK817.out 1).trans rfl; have hfz70_0 := blk_frozen BK817.out 0; have hfz70_1 := blk_frozen BK817.out 1; obtain ⟨Ao71, co71, eo71⟩ := Kd.R_slice HO838.out; subst eo71))
     refine bodyPost_ret (results_ct rfl _ _ gb817 32 #[.slice Ao69 t833.length co69, .slice Ao71 t836.length co71] (0, 0) _ rfl (zput (zput (zb BK817) 0) 1) Try.underlying32 rfl (by kernel_rfl)) rfl ?_
     exact ⟨_, _, zE, zrs <| Kd.R_mono (zfr (zfr (Kd.R_types HO835.out BK817.out (by decide)))) (fun _ hk => trivial), zrs <| Kd.R_mono (zfr (zfr (Kd.R_types HO838.out BK817.out (by decide)))) (fun _ hk => trivial), zB⟩
   ·replace c28 := Bool.eq_false_iff.mpr c28
    subst c28
    have H1 : (if t825 = 1000 then (some (([] : List (S68)), ([] : List (S72)), 4)) else ((impl_saying.f a1 (wrap64 (t825 + 1)) 0 0 0 (⟨#[]⟩ : ByteArray)).bind fun bt840 => (some (bt840.1, bt840.2.1, bt840.2.2)))) = some (r1, r2, r3) := by rw [if_neg (show ¬ (false = true) by decide)] at H; exact H
    clear H
    have H := H1
    clear H1
    by_cases c72 : t825 = 1000
    ·rw [if_pos c72] at H
     have c72b0 : (t825 == 1000) = true := beq_iff_eq.mpr c72
     have c72b1 : (t825 != 1000) = false := bne_eq_false_iff_eq.mpr c72
     clear c72
     simp only [Option.some.injEq, Prod.mk.injEq] at H
     obtain ⟨rfl, rfl, rfl⟩ := H
     go_enter Try.func32, Try.ntmps32
     go_wp2_with (first | ((with_reducible refine gate_dst (N := 2) rfl ?_); refine zbox 2 #[.slice A0_0 l0_0.length c0_0, .slice A0_1 l0_1.length c0_1] 32 ?_; intro gb816 hg w73 hbox hb; have BK816 := zm (hbox); have GW816 := zge w hg zB; have GE816 := zge w hg zB; replace HB := zm (below_step zB hb); clear hb hbox hg) | ((with_reducible refine gate_dst (N := 4) rfl ?_); refine zbox 4 #[.slice none 0 0, .slice none 0 0] 32 ?_; intro gb817 hg w74 hbox hb; have BK817 := zm (hbox); have GW817 := zge w hg zB; have GE817 := zge w hg zB; replace HB := zm (below_step zB hb); have NB816_817 := zlt hg (zb BK816); have NB817_816 := zgt hg (zb BK816); replace BK816 := zm (blk_below (zb BK816) hb); clear hb hbox hg; have hnb75 := NB816_817.out; have hnc75 := NB817_816.out; have hcz76_0 : w74.cell? ⟨gb816, 0, none⟩ = some (.slice A0_0 l0_0.length c0_0) := (blk_cell BK816.out 0).trans rfl; have hcz76_1 : w74.cell? ⟨gb816, 1, none⟩ = some (.slice A0_1 l0_1.length c0_1) := (blk_cell BK816.out 1).trans rfl; have hfz76_0 := blk_frozen BK816.out 0; have hfz76_1 := blk_frozen BK816.out 1) | ((with_reducible refine gate_callee (f := 68) rfl ?_); refine zg (some 14) #[.agg #[.slice A0_0 l0_0.length c0_0, .slice A0_1 l0_1.length c0_1], .int .i64 a1] Try.func68 ?_; (with_reducible refine (impl_present.calls k _ _ l0_0 _ _ l0_1 a1 t818 t819 t820 t821 t822 t823 _ (zk (Kd.C_below HR0_0.out HB.out)) HC0_0.out (zk (Kd.C_below HR0_1.out HB.out)) HC0_1.out A3.out).mono ?_); rintro e w77 ⟨rfl, hb⟩; refine ⟨_, rfl, ?_⟩; replace BK816 := zm (blk_below (zb BK816) hb); replace BK817 := zm (blk_below (zb BK817) hb); replace HB := zm (below_step zB hb); clear hb) | ((with_reducible refine gate_dst (N := 6) rfl ?_); refine zbox 6 #[.int .i64 0, .int .i64 0, .int .i64 0, .int .i64 0, .string (⟨#[]⟩ : ByteArray)] 66 ?_; intro gb824 hg w78 hbox hb; have BK824 := zm (hbox); have GW824 := zge w hg zB; have GE824 := zge w hg zB; replace HB := zm (below_step zB hb); have NB816_824 := zlt hg (zb BK816); have NB824_816 := zgt hg (zb BK816); replace BK816 := zm (blk_below (zb BK816) hb); have NB817_824 := zlt hg (zb BK817); have NB824_817 := zgt hg (zb BK817); replace BK817 := zm (blk_below (zb BK817) hb); clear hb hbox hg; have hnb79 := NB824_816.out; have hnc79 := NB816_824.out; have hnb80 := NB824_817.out; have hnc80 := NB817_824.out; have hcz81_0 : w78.cell? ⟨gb824, 0, none⟩ = some (.int .i64 0) := (blk_cell BK824.out 0).trans rfl; have hcz81_1 : w78.cell? ⟨gb824, 1, none⟩ = some (.int .i64 0) := (blk_cell BK824.out 1).trans rfl; have hcz81_2 : w78.cell? ⟨gb824, 2, none⟩ = some (.int .i64 0) := (blk_cell BK824.out 2).trans rfl; have hcz81_3 : w78.cell? ⟨gb824, 3, none⟩ = some (.int .i64 0) := (blk_cell BK824.out 3).trans rfl; have hcz81_4 : w78.cell? ⟨gb824, 4, none⟩ = some (.string (⟨#[]⟩ : ByteArray)) := (blk_cell BK824.out 4).trans rfl; have hfz81_0 := blk_frozen BK824.out 0; have hfz81_1 := blk_frozen BK824.out 1; have hfz81_2 := blk_frozen BK824.out 2; have hfz81_3 := blk_frozen BK824.out 3; have hfz81_4 := blk_frozen BK824.out 4; have hcz82_0 : w78.cell? ⟨gb816, 0, none⟩ = some (.slice A0_0 l0_0.length c0_0) := (blk_cell BK816.out 0).trans rfl; have hcz82_1 : w78.cell? ⟨gb816, 1, none⟩ = some (.slice A0_1 l0_1.length c0_1) := (blk_cell BK816.out 1).trans rfl; have hfz82_0 := blk_frozen BK816.out 0; have hfz82_1 := blk_frozen BK816.out 1) | ((with_reducible refine gate_callee (f := 77) rfl ?_); refine zg (some 26) #[.agg #[.slice A0_0 l0_0.length c0_0, .slice A0_1 l0_1.length c0_1], .int .i64 a1] Try.func77 ?_; (with_reducible refine (impl_FloorOf.calls k _ _ l0_0 _ _ l0_1 a1 t825 _ ?side1 HC0_0.out ?side3 HC0_1.out A26.out).mono ?_); (case side1 => exact Kd.C_below HR0_0.out zB); (case side3 => exact Kd.C_below HR0_1.out zB); rintro e w83 ⟨rfl, hb⟩; refine ⟨_, rfl, ?_⟩; replace BK816 := zm (blk_below (g := gb816) (o := .cells #[.slice A0_0 l0_0.length c0_0, .slice A0_1 l0_1.length c0_1] 32 (0, 0)) (zfar (zfar (zfar (zfar (zfar (zb BK816) NB816_824) NB816_824) NB816_824) NB816_824) NB816_824) hb); replace BK817 := zm (blk_below (g := gb817) (o := .cells #[.slice none 0 0, .slice none 0 0] 32 (0, 0)) (zfar (zfar (zfar (zfar (zfar (zb BK817) NB817_824) NB817_824) NB817_824) NB817_824) NB817_824) hb); replace BK824 := zm (blk_below (g := gb824) (o := .cells #[.int .i64 t818, .int .i64 t819, .int .i64 t820, .int .i64 t821, .string t822] 66 (0, 0)) (zput (zput (zput (zput (zput (zb BK824) 0) 1) 2) 3) 4) hb); replace HB := zm (below_step zB hb); clear hb; have hcz84_0 : w83.cell? ⟨gb816, 0, none⟩ = some (.slice A0_0 l0_0.length c0_0) := (blk_cell BK816.out 0).trans rfl; have hcz84_1 : w83.cell? ⟨gb816, 1, none⟩ = some (.slice A0_1 l0_1.length c0_1) := (blk_cell BK816.out 1).trans rfl; have hfz84_0 := blk_frozen BK816.out 0; have hfz84_1 := blk_frozen BK816.out 1) | ((with_reducible refine gate_callee (f := 78) rfl ?_); refine zg (some 30) #[.agg #[.slice A0_0 l0_0.length c0_0, .slice A0_1 l0_1.length c0_1], .int .i64 a1] Try.func78 ?_; (with_reducible refine (impl_EntryOf.calls k _ _ l0_0 _ _ l0_1 a1 t826 t827 t828 t829 t830 false _ (zk (Kd.C_below HR0_0.out HB.out)) HC0_0.out (zk (Kd.C_below HR0_1.out HB.out)) HC0_1.out A27.out).mono ?_); rintro e w85 ⟨rfl, hb⟩; refine ⟨_, rfl, ?_⟩; replace BK816 := zm (blk_below (zb BK816) hb); replace BK817 := zm (blk_below (zb BK817) hb); replace BK824 := zm (blk_below (zb BK824) hb); replace HB := zm (below_step zB hb); clear hb) | ((with_reducible refine gate_dst (N := 9) rfl ?_); refine zbox 9 #[.int .i64 0, .int .i64 0, .int .i64 0, .int .i64 0, .string (⟨#[]⟩ : ByteArray)] 66 ?_; intro gb832 hg w86 hbox hb; have BK832 := zm (hbox); have GW832 := zge w hg zB; have GE832 := zge w hg zB; replace HB := zm (below_step zB hb); have NB816_832 := zlt hg (zb BK816); have NB832_816 := zgt hg (zb BK816); replace BK816 := zm (blk_below (zb BK816) hb); have NB817_832 := zlt hg (zb BK817); have NB832_817 := zgt hg (zb BK817); replace BK817 := zm (blk_below (zb BK817) hb); have NB824_832 := zlt hg (zb BK824); have NB832_824 := zgt hg (zb BK824); replace BK824 := zm (blk_below (zb BK824) hb); clear hb hbox hg; have hnb87 := NB832_816.out; have hnc87 := NB816_832.out; have hnb88 := NB832_817.out; have hnc88 := NB817_832.out; have hnb89 := NB832_824.out; have hnc89 := NB824_832.out; have hcz90_0 : w86.cell? ⟨gb832, 0, none⟩ = some (.int .i64 0) := (blk_cell BK832.out 0).trans rfl; have hcz90_1 : w86.cell? ⟨gb832, 1, none⟩ = some (.int .i64 0) := (blk_cell BK832.out 1).trans rfl; have hcz90_2 : w86.cell? ⟨gb832, 2, none⟩ = some (.int .i64 0) := (blk_cell BK832.out 2).trans rfl; have hcz90_3 : w86.cell? ⟨gb832, 3, none⟩ = some (.int .i64 0) := (blk_cell BK832.out 3).trans rfl; have hcz90_4 : w86.cell? ⟨gb832, 4, none⟩ = some (.string (⟨#[]⟩ : ByteArray)) := (blk_cell BK832.out 4).trans rfl; have hfz90_0 := blk_frozen BK832.out 0; have hfz90_1 := blk_frozen BK832.out 1; have hfz90_2 := blk_frozen BK832.out 2; have hfz90_3 := blk_frozen BK832.out 3; have hfz90_4 := blk_frozen BK832.out 4; have hcz91_0 : w86.cell? ⟨gb817, 0, none⟩ = some (.slice none 0 0) := (blk_cell BK817.out 0).trans rfl; have hcz91_1 : w86.cell? ⟨gb817, 1, none⟩ = some (.slice none 0 0) := (blk_cell BK817.out 1).trans rfl; have hfz91_0 := blk_frozen BK817.out 0; have hfz91_1 := blk_frozen BK817.out 1))
     refine bodyPost_ret (results_ct rfl _ _ gb817 32 #[.slice none 0 0, .slice none 0 0] (0, 0) _ rfl (zput (zput (zfar (zfar (zfar (zfar (zfar (zb BK817) NB817_832) NB817_832) NB817_832) NB817_832) NB817_832) 0) 1) Try.underlying32 rfl (by kernel_rfl)) rfl ?_
     exact ⟨_, _, zE, by first | exact Kd.R_nil _ _ _ _ _ | exact Kd.N_nil _ _ _ _ _ | exact Kd.V_nil _ _ _ _ _ | exact Kd.Q_nil _ _ _ _ _ | exact Kd.S_nil _ _ _ _ _, by first | exact Kd.R_nil _ _ _ _ _ | exact Kd.N_nil _ _ _ _ _ | exact Kd.V_nil _ _ _ _ _ | exact Kd.Q_nil _ _ _ _ _ | exact Kd.S_nil _ _ _ _ _, zB⟩
    ·rw [if_neg c72] at H
     have c72b0 : (t825 == 1000) = false := beq_eq_false_iff_ne.mpr c72
     have c72b1 : (t825 != 1000) = true := bne_iff_ne.mpr c72
     replace H := Option.bind_eq_some_iff.mp H
     obtain ⟨⟨t840, t843, t846⟩, A920, H⟩ := H
     replace H : (some (t840, t843, t846)) = some (r1, r2, r3) := H
     have A92 := zm A920
     clear A920
     simp only [Option.some.injEq, Prod.mk.injEq] at H
     obtain ⟨rfl, rfl, rfl⟩ := H
     go_enter Try.func32, Try.ntmps32
     go_wp2_with (first | ((with_reducible refine gate_dst (N := 2) rfl ?_); refine zbox 2 #[.slice A0_0 l0_0.length c0_0, .slice A0_1 l0_1.length c0_1] 32 ?_; intro gb816 hg w93 hbox hb; have BK816 := zm (hbox); have GW816 := zge w hg zB; have GE816 := zge w hg zB; replace HB := zm (below_step zB hb); clear hb hbox hg) | ((with_reducible refine gate_dst (N := 4) rfl ?_); refine zbox 4 #[.slice none 0 0, .slice none 0 0] 32 ?_; intro gb817 hg w94 hbox hb; have BK817 := zm (hbox); have GW817 := zge w hg zB; have GE817 := zge w hg zB; replace HB := zm (below_step zB hb); have NB816_817 := zlt hg (zb BK816); have NB817_816 := zgt hg (zb BK816); replace BK816 := zm (blk_below (zb BK816) hb); clear hb hbox hg; have hnb95 := NB816_817.out; have hnc95 := NB817_816.out; have hcz96_0 : w94.cell? ⟨gb816, 0, none⟩ = some (.slice A0_0 l0_0.length c0_0) := (blk_cell BK816.out 0).trans rfl; have hcz96_1 : w94.cell? ⟨gb816, 1, none⟩ = some (.slice A0_1 l0_1.length c0_1) := (blk_cell BK816.out 1).trans rfl; have hfz96_0 := blk_frozen BK816.out 0; have hfz96_1 := blk_frozen BK816.out 1) | ((with_reducible refine gate_callee (f := 68) rfl ?_); refine zg (some 14) #[.agg #[.slice A0_0 l0_0.length c0_0, .slice A0_1 l0_1.length c0_1], .int .i64 a1] Try.func68 ?_; (with_reducible refine (impl_present.calls k _ _ l0_0 _ _ l0_1 a1 t818 t819 t820 t821 t822 t823 _ (zk (Kd.C_below HR0_0.out HB.out)) HC0_0.out (zk (Kd.C_below HR0_1.out HB.out)) HC0_1.out A3.out).mono ?_); rintro e w97 ⟨rfl, hb⟩; refine ⟨_, rfl, ?_⟩; replace BK816 := zm (blk_below (zb BK816) hb); replace BK817 := zm (blk_below (zb BK817) hb); replace HB := zm (below_step zB hb); clear hb) | ((with_reducible refine gate_dst (N := 6) rfl ?_); refine zbox 6 #[.int .i64 0, .int .i64 0, .int .i64 0, .int .i64 0, .string (⟨#[]⟩ : ByteArray)] 66 ?_; intro gb824 hg w98 hbox hb; have BK824 := zm (hbox); have GW824 := zge w hg zB; have GE824 := zge w hg zB; replace HB := zm (below_step zB hb); have NB816_824 := zlt hg (zb BK816); have NB824_816 := zgt hg (zb BK816); replace BK816 := zm (blk_below (zb BK816) hb); have NB817_824 := zlt hg (zb BK817); have NB824_817 := zgt hg (zb BK817); replace BK817 := zm (blk_below (zb BK817) hb); clear hb hbox hg; have hnb99 := NB824_816.out; have hnc99 := NB816_824.out; have hnb100 := NB824_817.out; have hnc100 := NB817_824.out; have hcz101_0 : w98.cell? ⟨gb824, 0, none⟩ = some (.int .i64 0) := (blk_cell BK824.out 0).trans rfl; have hcz101_1 : w98.cell? ⟨gb824, 1, none⟩ = some (.int .i64 0) := (blk_cell BK824.out 1).trans rfl; have hcz101_2 : w98.cell? ⟨gb824, 2, none⟩ = some (.int .i64 0) := (blk_cell BK824.out 2).trans rfl; have hcz101_3 : w98.cell? ⟨gb824, 3, none⟩ = some (.int .i64 0) := (blk_cell BK824.out 3).trans rfl; have hcz101_4 : w98.cell? ⟨gb824, 4, none⟩ = some (.string (⟨#[]⟩ : ByteArray)) := (blk_cell BK824.out 4).trans rfl; have hfz101_0 := blk_frozen BK824.out 0; have hfz101_1 := blk_frozen BK824.out 1; have hfz101_2 := blk_frozen BK824.out 2; have hfz101_3 := blk_frozen BK824.out 3; have hfz101_4 := blk_frozen BK824.out 4; have hcz102_0 : w98.cell? ⟨gb816, 0, none⟩ = some (.slice A0_0 l0_0.length c0_0) := (blk_cell BK816.out 0).trans rfl; have hcz102_1 : w98.cell? ⟨gb816, 1, none⟩ = some (.slice A0_1 l0_1.length c0_1) := (blk_cell BK816.out 1).trans rfl; have hfz102_0 := blk_frozen BK816.out 0; have hfz102_1 := blk_frozen BK816.out 1) | ((with_reducible refine gate_callee (f := 77) rfl ?_); refine zg (some 26) #[.agg #[.slice A0_0 l0_0.length c0_0, .slice A0_1 l0_1.length c0_1], .int .i64 a1] Try.func77 ?_; (with_reducible refine (impl_FloorOf.calls k _ _ l0_0 _ _ l0_1 a1 t825 _ ?side1 HC0_0.out ?side3 HC0_1.out A26.out).mono ?_); (case side1 => exact Kd.C_below HR0_0.out zB); (case side3 => exact Kd.C_below HR0_1.out zB); rintro e w103 ⟨rfl, hb⟩; refine ⟨_, rfl, ?_⟩; replace BK816 := zm (blk_below (g := gb816) (o := .cells #[.slice A0_0 l0_0.length c0_0, .slice A0_1 l0_1.length c0_1] 32 (0, 0)) (zfar (zfar (zfar (zfar (zfar (zb BK816) NB816_824) NB816_824) NB816_824) NB816_824) NB816_824) hb); replace BK817 := zm (blk_below (g := gb817) (o := .cells #[.slice none 0 0, .slice none 0 0] 32 (0, 0)) (zfar (zfar (zfar (zfar (zfar (zb BK817) NB817_824) NB817_824) NB817_824) NB817_824) NB817_824) hb); replace BK824 := zm (blk_below (g := gb824) (o := .cells #[.int .i64 t818, .int .i64 t819, .int .i64 t820, .int .i64 t821, .string t822] 66 (0, 0)) (zput (zput (zput (zput (zput (zb BK824) 0) 1) 2) 3) 4) hb); replace HB := zm (below_step zB hb); clear hb; have hcz104_0 : w103.cell? ⟨gb816, 0, none⟩ = some (.slice A0_0 l0_0.length c0_0) := (blk_cell BK816.out 0).trans rfl; have hcz104_1 : w103.cell? ⟨gb816, 1, none⟩ = some (.slice A0_1 l0_1.length c0_1) := (blk_cell BK816.out 1).trans rfl; have hfz104_0 := blk_frozen BK816.out 0; have hfz104_1 := blk_frozen BK816.out 1) | ((with_reducible refine gate_callee (f := 78) rfl ?_); refine zg (some 30) #[.agg #[.slice A0_0 l0_0.length c0_0, .slice A0_1 l0_1.length c0_1], .int .i64 a1] Try.func78 ?_; (with_reducible refine (impl_EntryOf.calls k _ _ l0_0 _ _ l0_1 a1 t826 t827 t828 t829 t830 false _ (zk (Kd.C_below HR0_0.out HB.out)) HC0_0.out (zk (Kd.C_below HR0_1.out HB.out)) HC0_1.out A27.out).mono ?_); rintro e w105 ⟨rfl, hb⟩; refine ⟨_, rfl, ?_⟩; replace BK816 := zm (blk_below (zb BK816) hb); replace BK817 := zm (blk_below (zb BK817) hb); replace BK824 := zm (blk_below (zb BK824) hb); replace HB := zm (below_step zB hb); clear hb) | ((with_reducible refine gate_dst (N := 9) rfl ?_); refine zbox 9 #[.int .i64 0, .int .i64 0, .int .i64 0, .int .i64 0, .string (⟨#[]⟩ : ByteArray)] 66 ?_; intro gb832 hg w106 hbox hb; have BK832 := zm (hbox); have GW832 := zge w hg zB; have GE832 := zge w hg zB; replace HB := zm (below_step zB hb); have NB816_832 := zlt hg (zb BK816); have NB832_816 := zgt hg (zb BK816); replace BK816 := zm (blk_below (zb BK816) hb); have NB817_832 := zlt hg (zb BK817); have NB832_817 := zgt hg (zb BK817); replace BK817 := zm (blk_below (zb BK817) hb); have NB824_832 := zlt hg (zb BK824); have NB832_824 := zgt hg (zb BK824); replace BK824 := zm (blk_below (zb BK824) hb); clear hb hbox hg; have hnb107 := NB832_816.out; have hnc107 := NB816_832.out; have hnb108 := NB832_817.out; have hnc108 := NB817_832.out; have hnb109 := NB832_824.out; have hnc109 := NB824_832.out; have hcz110_0 : w106.cell? ⟨gb832, 0, none⟩ = some (.int .i64 0) := (blk_cell BK832.out 0).trans rfl; have hcz110_1 : w106.cell? ⟨gb832, 1, none⟩ = some (.int .i64 0) := (blk_cell BK832.out 1).trans rfl; have hcz110_2 : w106.cell? ⟨gb832, 2, none⟩ = some (.int .i64 0) := (blk_cell BK832.out 2).trans rfl; have hcz110_3 : w106.cell? ⟨gb832, 3, none⟩ = some (.int .i64 0) := (blk_cell BK832.out 3).trans rfl; have hcz110_4 : w106.cell? ⟨gb832, 4, none⟩ = some (.string (⟨#[]⟩ : ByteArray)) := (blk_cell BK832.out 4).trans rfl; have hfz110_0 := blk_frozen BK832.out 0; have hfz110_1 := blk_frozen BK832.out 1; have hfz110_2 := blk_frozen BK832.out 2; have hfz110_3 := blk_frozen BK832.out 3; have hfz110_4 := blk_frozen BK832.out 4) | ((with_reducible refine gate_callee (f := 69) rfl ?_); refine zg (some 43) #[.int .i64 a1, .agg #[.int .i64 (wrap64 (t825 + 1)), .int .i64 0, .int .i64 0, .int .i64 0, .string (⟨#[]⟩ : ByteArray)]] Try.func69 ?_; (with_reducible refine (impl_saying.calls a1 (wrap64 (t825 + 1)) 0 0 0 (⟨#[]⟩ : ByteArray) t840 t843 t846 _ A92.out).mono ?_); rintro e w111 ⟨v841, v844, rfl, ho0, ho1, hb⟩; refine ⟨_, rfl, ?_⟩; have HO842 := zm (Kd.R_lower ho0 (below_size zB)); have HO845 := zm (Kd.R_lower ho1 (below_size zB)); replace BK816 := zm (blk_below (g := gb816) (o := .cells #[.slice A0_0 l0_0.length c0_0, .slice A0_1 l0_1.length c0_1] 32 (0, 0)) (zfar (zfar (zfar (zfar (zfar (zb BK816) NB816_832) NB816_832) NB816_832) NB816_832) NB816_832) hb); replace BK817 := zm (blk_below (g := gb817) (o := .cells #[.slice none 0 0, .slice none 0 0] 32 (0, 0)) (zfar (zfar (zfar (zfar (zfar (zb BK817) NB817_832) NB817_832) NB817_832) NB817_832) NB817_832) hb); replace BK824 := zm (blk_below (g := gb824) (o := .cells #[.int .i64 t818, .int .i64 t819, .int .i64 t820, .int .i64 t821, .string t822] 66 (0, 0)) (zfar (zfar (zfar (zfar (zfar (zb BK824) NB824_832) NB824_832) NB824_832) NB824_832) NB824_832) hb); replace BK832 := zm (blk_below (g := gb832) (o := .cells #[.int .i64 t826, .int .i64 t827, .int .i64 t828, .int .i64 t829, .string t830] 66 (0, 0)) (zput (zput (zput (zput (zput (zb BK832) 0) 1) 2) 3) 4) hb); replace HB := zm (below_step zB hb); clear hb ho0 ho1; obtain ⟨Ao112, co112, eo112⟩ := Kd.R_slice HO842.out; subst eo112; have hcz113_0 : w111.cell? ⟨gb817, 0, none⟩ = some (.slice none 0 0) := (blk_cell BK817.out 0).trans rfl; have hcz113_1 : w111.cell? ⟨gb817, 1, none⟩ = some (.slice none 0 0) := (blk_cell BK817.out 1).trans rfl; have hfz113_0 := blk_frozen BK817.out 0; have hfz113_1 := blk_frozen BK817.out 1; obtain ⟨Ao114, co114, eo114⟩ := Kd.R_slice HO845.out; subst eo114))
     refine bodyPost_ret (results_ct rfl _ _ gb817 32 #[.slice Ao112 t840.length co112, .slice Ao114 t843.length co114] (0, 0) _ rfl (zput (zput (zb BK817) 0) 1) Try.underlying32 rfl (by kernel_rfl)) rfl ?_
     exact ⟨_, _, zE, zrs <| Kd.R_mono (zfr (zfr (Kd.R_types HO842.out BK817.out (by decide)))) (fun _ hk => trivial), zrs <| Kd.R_mono (zfr (zfr (Kd.R_types HO845.out BK817.out (by decide)))) (fun _ hk => trivial), zB⟩

/-! ### spec_l1Bit: function 105 -/
def spec_l1Bit.f (a0 : Bool) : Option (Int) := if a0 = true then (some 1) else (some 0)
set_option maxHeartbeats 8000000 in
set_option maxRecDepth 100000 in
theorem spec_l1Bit.calls (a0 : Bool) (r : Int) (w : World) (h : spec_l1Bit.f a0 = some r) :
  Calls Try.prog 105 #[.bool a0] w fun e w' => e = .returned (.int .i64 r) ∧ Drawn0 w w' := by
 have H : (if a0 = true then (some 1) else (some 0)) = some r := h
 clear h
 by_cases c2 : a0 = true
 ·subst c2
  have H1 : (some 1) = some r := by rw [if_pos rfl] at H; exact H
  clear H
  have H := H1
  clear H1
  obtain rfl := Option.some.inj H
  go_enter Try.func105, Try.ntmps105
  go_wp2
  go_ret
  exact ⟨zF, zD⟩
 ·replace c2 := Bool.eq_false_iff.mpr c2
  subst c2
  have H1 : (some 0) = some r := by rw [if_neg (show ¬ (false = true) by decide)] at H; exact H
  clear H
  have H := H1
  clear H1
  obtain rfl := Option.some.inj H
  go_enter Try.func105, Try.ntmps105
  go_wp2
  go_ret
  exact ⟨zF, zD⟩

/-! ### spec_l2Cmp: function 104 -/
def spec_l2Cmp.f (a0 : Int) (a1 : Int) : Option (Int) := if a0 < a1 then (some (-1)) else ((spec_l1Bit.f (decide (a0 > a1))).bind fun t910 => (some t910))
set_option maxHeartbeats 8000000 in
set_option maxRecDepth 100000 in
theorem spec_l2Cmp.calls (a0 : Int) (a1 : Int) (r : Int) (w : World) (h : spec_l2Cmp.f a0 a1 = some r) :
  Calls Try.prog 104 #[.int .i64 a0, .int .i64 a1] w fun e w' => e = .returned (.int .i64 r) ∧ Drawn0 w w' := by
 have H : (if a0 < a1 then (some (-1)) else ((spec_l1Bit.f (decide (a0 > a1))).bind fun t910 => (some t910))) = some r := h
 clear h
 by_cases c3 : a0 < a1
 ·rw [if_pos c3] at H
  have c3b0 : decide (a0 < a1) = true := decide_eq_true c3
  clear c3
  obtain rfl := Option.some.inj H
  go_enter Try.func104, Try.ntmps104
  go_wp2
  go_ret
  exact ⟨zF, zD⟩
 ·rw [if_neg c3] at H
  have c3b0 : decide (a0 < a1) = false := decide_eq_false c3
  clear c3
  replace H := Option.bind_eq_some_iff.mp H
  obtain ⟨t910, A40, H⟩ := H
  replace H : (some t910) = some r := H
  have A4 := zm A40
  clear A40
  obtain rfl := Option.some.inj H
  go_enter Try.func104, Try.ntmps104
  go_wp2_with (first | ((with_reducible refine gate_callee (f := 105) rfl ?_); refine zg (some 11) #[.bool (decide (a0 > a1))] Try.func105 ?_; (with_reducible refine (spec_l1Bit.calls (decide (a0 > a1)) t910 _ A4.out).mono ?_); rintro e w' ⟨rfl, ⟨nd, rfl⟩⟩; refine ⟨_, rfl, ?_⟩))
  go_ret
  exact ⟨zF, zD⟩

/-! ### spec_EntryCmp: function 79 -/
def spec_EntryCmp.l0 : Nat → List Int → Int → Int → Int → Int → Int → ByteArray → Int → Int → Int → Int → ByteArray → Option (Int)
 | 0, _, _, _, _, _, _, _, _, _, _, _, _ => none
 | k + 1, x5, x6, x912000, x912001, x912002, x912003, x912004, x913000, x913001, x913002, x913003, x913004 => if x6 < (x5.length : Int) then (if 0 ≤ x6 then (if (rd x5 x6) = 0 then (spec_EntryCmp.l0 k x5 (wrap64 (x6 + 1)) x912000 x912001 x912002 x912003 x912004 x913000 x913001 x913002 x913003 x913004) else (some (rd x5 x6))) else (none)) else (if (Op.bytesLess x912004.toList x913004.toList) = true then (some (-1)) else ((spec_l1Bit.f (!(x912004.toList == x913004.toList))).bind fun t922 => (some t922)))
def spec_EntryCmp.f (k : Nat) (a0_0 : Int) (a0_1 : Int) (a0_2 : Int) (a0_3 : Int) (a0_4 : ByteArray) (a1_0 : Int) (a1_1 : Int) (a1_2 : Int) (a1_3 : Int) (a1_4 : ByteArray) : Option (Int) := (spec_l2Cmp.f a0_0 a1_0).bind fun t913 => ((spec_l2Cmp.f a0_1 a1_1).bind fun t914 => ((spec_l2Cmp.f a0_2 a1_2).bind fun t915 => ((spec_l2Cmp.f a0_3 a1_3).bind fun t916 => (spec_EntryCmp.l0 k (([t913, t914, t915, t916] : List Int)) 0 a0_0 a0_1 a0_2 a0_3 a0_4 a1_0 a1_1 a1_2 a1_3 a1_4))))
theorem spec_EntryCmp.mono_l : ∀ k, (∀ y0 y1 y2 y3 y4 y5 y6 y7 y8 y9 y10 y11, LeO (spec_EntryCmp.l0 k y0 y1 y2 y3 y4 y5 y6 y7 y8 y9 y10 y11) (spec_EntryCmp.l0 (k + 1) y0 y1 y2 y3 y4 y5 y6 y7 y8 y9 y10 y11))
 | 0 => fun _ _ _ _ _ _ _ _ _ _ _ _ r h => by simp [spec_EntryCmp.l0] at h
 | k + 1 => by
  have ih0 := spec_EntryCmp.mono_l k
  ·intro y0 y1 y2 y3 y4 y5 y6 y7 y8 y9 y10 y11
   unfold spec_EntryCmp.l0
   repeat' first
   | (with_reducible exact ih0 _ _ _ _ _ _ _ _ _ _ _ _)
   | (with_reducible exact LeO.refl _)
   | (with_reducible exact LeO.none _)
   | (with_reducible refine LeO.ite ?_ ?_)
   | (with_reducible refine LeO.bind ?_ (fun _ => ?_))
   | exact ih0 _ _ _ _ _ _ _ _ _ _ _ _
   | exact LeO.none _
   | refine LeO.ite ?_ ?_
   | refine LeO.bind ?_ (fun _ => ?_)
theorem spec_EntryCmp.mono : ∀ a0 a1 a2 a3 a4 a5 a6 a7 a8 a9 k, LeO (spec_EntryCmp.f k a0 a1 a2 a3 a4 a5 a6 a7 a8 a9) (spec_EntryCmp.f (k + 1) a0 a1 a2 a3 a4 a5 a6 a7 a8 a9) := by
 intro a0 a1 a2 a3 a4 a5 a6 a7 a8 a9 k
 have ih0 := spec_EntryCmp.mono_l k
 unfold spec_EntryCmp.f
 repeat' first
   | (with_reducible exact ih0 _ _ _ _ _ _ _ _ _ _ _ _)
   | (with_reducible exact LeO.refl _)
   | (with_reducible exact LeO.none _)
   | (with_reducible refine LeO.ite ?_ ?_)
   | (with_reducible refine LeO.bind ?_ (fun _ => ?_))
   | exact ih0 _ _ _ _ _ _ _ _ _ _ _ _
   | exact LeO.none _
   | refine LeO.ite ?_ ?_
   | refine LeO.bind ?_ (fun _ => ?_)
def spec_EntryCmp.T1 : Bool × List (List Nat × List Nat) := (true, [([], []), ([0], [0]), ([], []), ([2], [2]), ([1, 3], [1, 3]), ([], []), ([5], [5]), ([], []), ([7], [7]), ([6, 8, 4], [6, 8]), ([], []), ([10], [10]), ([], []), ([12], [12]), ([11, 13, 9], [11, 13]), ([], []), ([15], [15]), ([], []), ([17], [17]), ([16, 18, 14], [16, 18]), ([4, 9, 14, 19], [4, 9, 14, 19]), ([20, 19, 0, 1, 2, 3, 4, 5, 6, 7, 8, 9, 10, 11, 12, 13, 14, 15, 16, 17, 18, 19, 20], [20])])
def spec_EntryCmp.B1 : List Nat := [0, 1, 0, 4, 15, 0, 32, 0, 128, 511, 0, 1024, 0, 4096, 16383, 0, 32768, 0, 131072, 524287, 1048575, 2097151]
theorem spec_EntryCmp.tab1 : rtab .any (opsOf Try.f79 1) = spec_EntryCmp.T1 := by kernel_rfl
theorem spec_EntryCmp.bits1 : waitsOk spec_EntryCmp.T1.2 spec_EntryCmp.B1 = true := by kernel_rfl
set_option maxHeartbeats 8000000 in
set_option maxRecDepth 100000 in
theorem spec_EntryCmp.calls (k : Nat) (a0_0 : Int) (a0_1 : Int) (a0_2 : Int) (a0_3 : Int) (a0_4 : ByteArray) (a1_0 : Int) (a1_1 : Int) (a1_2 : Int) (a1_3 : Int) (a1_4 : ByteArray) (r : Int) (w : World) (h : spec_EntryCmp.f k a0_0 a0_1 a0_2 a0_3 a0_4 a1_0 a1_1 a1_2 a1_3 a1_4 = some r) :
  Calls Try.prog 79 #[.agg #[.int .i64 a0_0, .int .i64 a0_1, .int .i64 a0_2, .int .i64 a0_3, .string a0_4], .agg #[.int .i64 a1_0, .int .i64 a1_1, .int .i64 a1_2, .int .i64 a1_3, .string a1_4]] w fun e w' => e = .returned (.int .i64 r) ∧ Below w.heap.size w w' := by
 have hu66 := Try.underlying66
 have HB := zm (Below.refl w.heap.size w)
 have H : ((spec_l2Cmp.f a0_0 a1_0).bind fun t913 => ((spec_l2Cmp.f a0_1 a1_1).bind fun t914 => ((spec_l2Cmp.f a0_2 a1_2).bind fun t915 => ((spec_l2Cmp.f a0_3 a1_3).bind fun t916 => (spec_EntryCmp.l0 k (([t913, t914, t915, t916] : List Int)) 0 a0_0 a0_1 a0_2 a0_3 a0_4 a1_0 a1_1 a1_2 a1_3 a1_4))))) = some r := h
 clear h
 replace H := Option.bind_eq_some_iff.mp H
 obtain ⟨t913, A30, H⟩ := H
 replace H : ((spec_l2Cmp.f a0_1 a1_1).bind fun t914 => ((spec_l2Cmp.f a0_2 a1_2).bind fun t915 => ((spec_l2Cmp.f a0_3 a1_3).bind fun t916 => (spec_EntryCmp.l0 k (([t913, t914, t915, t916] : List Int)) 0 a0_0 a0_1 a0_2 a0_3 a0_4 a1_0 a1_1 a1_2 a1_3 a1_4)))) = some r := H
 have A3 := zm A30
 clear A30
 replace H := Option.bind_eq_some_iff.mp H
 obtain ⟨t914, A40, H⟩ := H
 replace H : ((spec_l2Cmp.f a0_2 a1_2).bind fun t915 => ((spec_l2Cmp.f a0_3 a1_3).bind fun t916 => (spec_EntryCmp.l0 k (([t913, t914, t915, t916] : List Int)) 0 a0_0 a0_1 a0_2 a0_3 a0_4 a1_0 a1_1 a1_2 a1_3 a1_4))) = some r := H
 have A4 := zm A40
 clear A40
 replace H := Option.bind_eq_some_iff.mp H
 obtain ⟨t915, A50, H⟩ := H
 replace H : ((spec_l2Cmp.f a0_3 a1_3).bind fun t916 => (spec_EntryCmp.l0 k (([t913, t914, t915, t916] : List Int)) 0 a0_0 a0_1 a0_2 a0_3 a0_4 a1_0 a1_1 a1_2 a1_3 a1_4)) = some r := H
 have A5 := zm A50
 clear A50
 replace H := Option.bind_eq_some_iff.mp H
 obtain ⟨t916, A60, H⟩ := H
 replace H : (spec_EntryCmp.l0 k (([t913, t914, t915, t916] : List Int)) 0 a0_0 a0_1 a0_2 a0_3 a0_4 a1_0 a1_1 a1_2 a1_3 a1_4) = some r := H
 have A6 := zm A60
 clear A60
 obtain ⟨y917, hy917⟩ : ∃ y_ : List Int, y_ = (([t913, t914, t915, t916] : List Int)) := ⟨_, rfl⟩
 replace H : (spec_EntryCmp.l0 k y917 0 a0_0 a0_1 a0_2 a0_3 a0_4 a1_0 a1_1 a1_2 a1_3 a1_4) = some r := by first | (rw [hy917]; with_reducible exact H) | (have H2_ := (Option.bind_some _ _).symm.trans H; rw [hy917]; with_reducible exact H2_) | (have H2_ := (Option.bind_some _ _).symm.trans H; with_reducible exact H2_) | with_reducible exact H | (rw [hy917]; exact H) | exact H
 have Ny917 := zm hy917
 clear hy917
 have H' := zm H
 clear H
 go_enter Try.func79, Try.ntmps79
 try go_wp2_with (first | ((with_reducible refine gate_dst (N := 2) rfl ?_); refine zbox 2 #[.int .i64 a0_0, .int .i64 a0_1, .int .i64 a0_2, .int .i64 a0_3, .string a0_4] 66 ?_; intro gb911 hg w7 hbox hb; have BK911 := zm (hbox); have GW911 := zge w hg zB; have GE911 := zge w hg zB; replace HB := zm (below_step zB hb); clear hb hbox hg) | ((with_reducible refine gate_dst (N := 3) rfl ?_); refine zbox 3 #[.int .i64 a1_0, .int .i64 a1_1, .int .i64 a1_2, .int .i64 a1_3, .string a1_4] 66 ?_; intro gb912 hg w8 hbox hb; have BK912 := zm (hbox); have GW912 := zge w hg zB; have GE912 := zge w hg zB; replace HB := zm (below_step zB hb); have NB911_912 := zlt hg (zb BK911); have NB912_911 := zgt hg (zb BK911); replace BK911 := zm (blk_below (zb BK911) hb); clear hb hbox hg))
 replace BK911 := zm (blk_drew BK911.out)
 replace BK912 := zm (blk_drew BK912.out)
 replace HB := zm (below_drew1 HB.out)
 refine start_ (n := 22) (S := fun w' => w'.cell? ⟨gb911, 0, none⟩ = some (.int .i64 a0_0) ∧ w'.cell? ⟨gb911, 1, none⟩ = some (.int .i64 a0_1) ∧ w'.cell? ⟨gb911, 2, none⟩ = some (.int .i64 a0_2) ∧ w'.cell? ⟨gb911, 3, none⟩ = some (.int .i64 a0_3) ∧ w'.cell? ⟨gb911, 4, none⟩ = some (.string a0_4) ∧ w'.cell? ⟨gb912, 0, none⟩ = some (.int .i64 a1_0) ∧ w'.cell? ⟨gb912, 1, none⟩ = some (.int .i64 a1_1) ∧ w'.cell? ⟨gb912, 2, none⟩ = some (.int .i64 a1_2) ∧ w'.cell? ⟨gb912, 3, none⟩ = some (.int .i64 a1_3) ∧ w'.cell? ⟨gb912, 4, none⟩ = some (.string a1_4)) (ds := []) (zl 22 0) (by kernel_rfl) rfl rfl ⟨(blk_cell BK911.out 0).trans rfl, (blk_cell BK911.out 1).trans rfl, (blk_cell BK911.out 2).trans rfl, (blk_cell BK911.out 3).trans rfl, (blk_cell BK911.out 4).trans rfl, (blk_cell BK912.out 0).trans rfl, (blk_cell BK912.out 1).trans rfl, (blk_cell BK912.out 2).trans rfl, (blk_cell BK912.out 3).trans rfl, (blk_cell BK912.out 4).trans rfl⟩ (fun hHeld => ?_); refine with_tabW spec_EntryCmp.tab1 spec_EntryCmp.bits1 (fun HT_ HW_ => ?_)
 generalize w8.drew = w9 at BK911 BK912 HB hHeld ⊢
 refine zp 0 (some 7) (zl 22 1) ?_
 refine zp 2 (some 9) (zl 22 5) ?_
 refine zp 5 (some 12) (zl 22 37) ?_
 refine zp 7 (some 14) (zl 22 165) ?_
 refine zp 10 (some 17) (zl 22 1189) ?_
 refine zp 12 (some 19) (zl 22 5285) ?_
 refine zp 15 (some 22) (zl 22 38053) ?_
 refine zp 17 (some 24) (zl 22 169125) ?_
 refine zt 1 (some 8) (zl 22 169127) ?_
 refine zt 3 (some 10) (zl 22 169135) ?_
 refine zt 6 (some 13) (zl 22 169199) ?_
 refine zt 8 (some 15) (zl 22 169455) ?_
 refine zt 11 (some 18) (zl 22 171503) ?_
 refine zt 13 (some 20) (zl 22 179695) ?_
 refine zt 16 (some 23) (zl 22 245231) ?_
 refine zt 18 (some 25) (zl 22 507375) ?_
 refine zo 4 (some 11) (zl 22 507391) (fun K hK => ?_)
 refine zgo #[.int .i64 a0_0, .int .i64 a1_0] Try.func104 ?_
 with_reducible refine (spec_l2Cmp.calls a0_0 a1_0 t913 _ A3.out).mono ?_
 rintro e w' ⟨rfl, ⟨nd, rfl⟩⟩
 refine ⟨_, rfl, ?_⟩
 refine hK.out _ _ ⟨(blk_cell BK911.out 0).trans rfl, (blk_cell BK911.out 1).trans rfl, (blk_cell BK911.out 2).trans rfl, (blk_cell BK911.out 3).trans rfl, (blk_cell BK911.out 4).trans rfl, (blk_cell BK912.out 0).trans rfl, (blk_cell BK912.out 1).trans rfl, (blk_cell BK912.out 2).trans rfl, (blk_cell BK912.out 3).trans rfl, (blk_cell BK912.out 4).trans rfl⟩ (fun hHeld => ?_)
 clear hK K
 refine zn ?_
 refine zo 9 (some 16) (zl 22 507903) (fun K hK => ?_)
 refine zgo #[.int .i64 a0_1, .int .i64 a1_1] Try.func104 ?_
 with_reducible refine (spec_l2Cmp.calls a0_1 a1_1 t914 _ A4.out).mono ?_
 rintro e w' ⟨rfl, ⟨nd, rfl⟩⟩
 refine ⟨_, rfl, ?_⟩
 refine hK.out _ _ ⟨(blk_cell BK911.out 0).trans rfl, (blk_cell BK911.out 1).trans rfl, (blk_cell BK911.out 2).trans rfl, (blk_cell BK911.out 3).trans rfl, (blk_cell BK911.out 4).trans rfl, (blk_cell BK912.out 0).trans rfl, (blk_cell BK912.out 1).trans rfl, (blk_cell BK912.out 2).trans rfl, (blk_cell BK912.out 3).trans rfl, (blk_cell BK912.out 4).trans rfl⟩ (fun hHeld => ?_)
 clear hK K
 refine zn ?_
 refine zo 14 (some 21) (zl 22 524287) (fun K hK => ?_)
 refine zgo #[.int .i64 a0_2, .int .i64 a1_2] Try.func104 ?_
 with_reducible refine (spec_l2Cmp.calls a0_2 a1_2 t915 _ A5.out).mono ?_
 rintro e w' ⟨rfl, ⟨nd, rfl⟩⟩
 refine ⟨_, rfl, ?_⟩
 refine hK.out _ _ ⟨(blk_cell BK911.out 0).trans rfl, (blk_cell BK911.out 1).trans rfl, (blk_cell BK911.out 2).trans rfl, (blk_cell BK911.out 3).trans rfl, (blk_cell BK911.out 4).trans rfl, (blk_cell BK912.out 0).trans rfl, (blk_cell BK912.out 1).trans rfl, (blk_cell BK912.out 2).trans rfl, (blk_cell BK912.out 3).trans rfl, (blk_cell BK912.out 4).trans rfl⟩ (fun hHeld => ?_)
 clear hK K
 refine zn ?_
 refine zo 19 (some 26) (zl 22 1048575) (fun K hK => ?_)
 refine zgo #[.int .i64 a0_3, .int .i64 a1_3] Try.func104 ?_
 with_reducible refine (spec_l2Cmp.calls a0_3 a1_3 t916 _ A6.out).mono ?_
 rintro e w' ⟨rfl, ⟨nd, rfl⟩⟩
 refine ⟨_, rfl, ?_⟩
 refine hK.out _ _ ⟨(blk_cell BK911.out 0).trans rfl, (blk_cell BK911.out 1).trans rfl, (blk_cell BK911.out 2).trans rfl, (blk_cell BK911.out 3).trans rfl, (blk_cell BK911.out 4).trans rfl, (blk_cell BK912.out 0).trans rfl, (blk_cell BK912.out 1).trans rfl, (blk_cell BK912.out 2).trans rfl, (blk_cell BK912.out 3).trans rfl, (blk_cell BK912.out 4).trans rfl⟩ (fun hHeld => ?_)
 clear hK K
 refine zn ?_
 refine zo 20 (some 27) (zl 22 2097151) (fun K hK => ?_)
 refine Kd.R_lit_step (Kd.int .i64) _ 3 ?hg (N := 27) ?hd (xs := ([t913, t914, t915, t916] : List Int)) (inner := [.int .i64 t913, .int .i64 t914, .int .i64 t915, .int .i64 t916]) (ok := fun _ => True) (okp := fun _ => True) ?hr ?hp (fun _ hk => hk) trivial (Below.refl _ _) (Nat.le_refl _) (by simp) ?_; (case hd => rfl); (case hg => rfl); (case hr => first | (go_simp; done) | (go_simp; rfl)); (case hp => exact (Reps.one (show Kd.M (Kd.int .i64) _ _ _ t913 [.int .i64 t913] from rfl) (Reps.one (show Kd.M (Kd.int .i64) _ _ _ t914 [.int .i64 t914] from rfl) (Reps.one (show Kd.M (Kd.int .i64) _ _ _ t915 [.int .i64 t915] from rfl) (Reps.one (show Kd.M (Kd.int .i64) _ _ _ t916 [.int .i64 t916] from rfl) (Reps.none _ _))))))
 intro v918 w10 ho11 hb hg_ hnew_
 clear hg_ hnew_
 (first | rw [← Ny917.out] at ho11 | (simp only [Int.reduceToNat] at ho11; rw [← Ny917.out] at ho11))
 have HO919 := zm (Kd.R_lower ho11 (below_size zB))
 replace BK911 := zm (blk_below (zb BK911) hb)
 replace BK912 := zm (blk_below (zb BK912) hb)
 replace HB := zm (below_step zB hb)
 clear hb ho11
 refine hK.out _ _ ⟨(blk_cell BK911.out 0).trans rfl, (blk_cell BK911.out 1).trans rfl, (blk_cell BK911.out 2).trans rfl, (blk_cell BK911.out 3).trans rfl, (blk_cell BK911.out 4).trans rfl, (blk_cell BK912.out 0).trans rfl, (blk_cell BK912.out 1).trans rfl, (blk_cell BK912.out 2).trans rfl, (blk_cell BK912.out 3).trans rfl, (blk_cell BK912.out 4).trans rfl⟩ (fun hHeld => ?_)
 clear hK K
 refine zn ?_
 refine zp 21 (some 5) (zl 22 4194303) ?_
 refine done_ (done_of HT_.out (by kernel_rfl)) ?_
 try go_wp2
 go_loopg [6] k (fun kq v6 w' => ∃ (x6_1 : Int), v6 = .int .i64 x6_1 ∧ Aside0 (spec_EntryCmp.l0 kq y917 x6_1 a0_0 a0_1 a0_2 a0_3 a0_4 a1_0 a1_1 a1_2 a1_3 a1_4 = some r) ∧ Aside0 (kq ≤ k) ∧ Aside0 (Kd.R (Kd.int .i64) 3 w' w.heap.size (fun _ => True) v918 y917) ∧ Aside0 (w'.heap[gb911]? = some (.cells #[.int .i64 a0_0, .int .i64 a0_1, .int .i64 a0_2, .int .i64 a0_3, .string a0_4] 66 (0, 0))) ∧ Aside0 (w'.heap[gb912]? = some (.cells #[.int .i64 a1_0, .int .i64 a1_1, .int .i64 a1_2, .int .i64 a1_3, .string a1_4] 66 (0, 0))) ∧ Aside0 (Below w.heap.size w w'))
 case atStart => exact ⟨(0), zF, H', ⟨Nat.le_refl _⟩, ⟨zr HO919⟩, ⟨zb BK911⟩, ⟨zb BK912⟩, ⟨zB⟩⟩
 case round =>
  clear H'
  try clear c1
  try clear p2
  try clear c7
  try clear c10
  obtain ⟨x6_1, rfl, HA, HK1, HO_5, BK911, BK912, HB⟩ := hrel
  cases gk with
  | zero => exact absurd HA.out (by simp [spec_EntryCmp.l0])
  | succ k1 =>
   have H := HA.out
   clear HA
   simp only [spec_EntryCmp.l0] at H
   by_cases c12 : x6_1 < (y917.length : Int)
   ·rw [if_pos c12] at H
    have c12b0 : decide (x6_1 < (y917.length : Int)) = true := decide_eq_true c12
    clear c12
    by_cases c13 : 0 ≤ x6_1
    ·rw [if_pos c13] at H
     have c13b0 : decide (0 ≤ x6_1) = true := decide_eq_true c13
     clear c13
     by_cases c14 : (rd y917 x6_1) = 0
     ·rw [if_pos c14] at H
      have c14b0 : ((rd y917 x6_1) == 0) = true := beq_iff_eq.mpr c14
      have c14b1 : ((rd y917 x6_1) != 0) = false := bne_eq_false_iff_eq.mpr c14
      clear c14
      have H' := zm H
      clear H
      obtain ⟨Ao15, co15, eo15⟩ := Kd.R_slice HO_5.out
      subst eo15
      have p920 : 0 ≤ (x6_1 : Int) := zd
      have q920 : x6_1 < (y917.length : Int) := zd
      obtain ⟨ad920, e920, hx920_0⟩ := Kd.at_int (Kd.R_reads' HO_5.out).2.2 x6_1 p920 q920
      cases e920
      replace p920 := eq_true p920
      replace q920 := eq_true q920
      go_wp2
      go_roundg k1
      case measure => have := HK1.out; omega
      case rel => exact ⟨(wrap64 (x6_1 + 1)), zF, H', ⟨by have := HK1.out; omega⟩, ⟨zr HO_5⟩, ⟨zb BK911⟩, ⟨zb BK912⟩, ⟨zB⟩⟩
     ·rw [if_neg c14] at H
      have c14b0 : ((rd y917 x6_1) == 0) = false := beq_eq_false_iff_ne.mpr c14
      have c14b1 : ((rd y917 x6_1) != 0) = true := bne_iff_ne.mpr c14
      obtain rfl := Option.some.inj H
      obtain ⟨Ao16, co16, eo16⟩ := Kd.R_slice HO_5.out
      subst eo16
      have p920 : 0 ≤ (x6_1 : Int) := zd
      have q920 : x6_1 < (y917.length : Int) := zd
      obtain ⟨ad920, e920, hx920_0⟩ := Kd.at_int (Kd.R_reads' HO_5.out).2.2 x6_1 p920 q920
      cases e920
      replace p920 := eq_true p920
      replace q920 := eq_true q920
      have p921 : 0 ≤ (x6_1 : Int) := zd
      have q921 : x6_1 < (y917.length : Int) := zd
      obtain ⟨ad921, e921, hx921_0⟩ := Kd.at_int (Kd.R_reads' HO_5.out).2.2 x6_1 p921 q921
      obtain rfl : ad920 = ad921 := (by injection e921)
      replace p921 := eq_true p921
      replace q921 := eq_true q921
      go_wp2
      go_ret
      exact ⟨zE, zB⟩
    ·rw [if_neg c13] at H
     exact absurd H (by simp)
   ·rw [if_neg c12] at H
    have c12b0 : decide (x6_1 < (y917.length : Int)) = false := decide_eq_false c12
    clear c12
    by_cases c17 : (Op.bytesLess a0_4.toList a1_4.toList) = true
    ·rw [if_pos c17] at H
     have c17b0 : (Op.bytesLess a0_4.toList a1_4.toList) = true := c17
     clear c17
     obtain rfl := Option.some.inj H
     obtain ⟨Ao18, co18, eo18⟩ := Kd.R_slice HO_5.out
     subst eo18
     have hnb19 := NB911_912.out
     have hnc19 := NB912_911.out
     have hcz20_0 : wr.cell? ⟨gb911, 0, none⟩ = some (.int .i64 a0_0) := (blk_cell BK911.out 0).trans rfl
     have hcz20_1 : wr.cell? ⟨gb911, 1, none⟩ = some (.int .i64 a0_1) := (blk_cell BK911.out 1).trans rfl
     have hcz20_2 : wr.cell? ⟨gb911, 2, none⟩ = some (.int .i64 a0_2) := (blk_cell BK911.out 2).trans rfl
     have hcz20_3 : wr.cell? ⟨gb911, 3, none⟩ = some (.int .i64 a0_3) := (blk_cell BK911.out 3).trans rfl
     have hcz20_4 : wr.cell? ⟨gb911, 4, none⟩ = some (.string a0_4) := (blk_cell BK911.out 4).trans rfl
     have hfz20_0 := blk_frozen BK911.out 0
     have hfz20_1 := blk_frozen BK911.out 1
     have hfz20_2 := blk_frozen BK911.out 2
     have hfz20_3 := blk_frozen BK911.out 3
     have hfz20_4 := blk_frozen BK911.out 4
     have hcz21_0 : wr.cell? ⟨gb912, 0, none⟩ = some (.int .i64 a1_0) := (blk_cell BK912.out 0).trans rfl
     have hcz21_1 : wr.cell? ⟨gb912, 1, none⟩ = some (.int .i64 a1_1) := (blk_cell BK912.out 1).trans rfl
     have hcz21_2 : wr.cell? ⟨gb912, 2, none⟩ = some (.int .i64 a1_2) := (blk_cell BK912.out 2).trans rfl
     have hcz21_3 : wr.cell? ⟨gb912, 3, none⟩ = some (.int .i64 a1_3) := (blk_cell BK912.out 3).trans rfl
     have hcz21_4 : wr.cell? ⟨gb912, 4, none⟩ = some (.string a1_4) := (blk_cell BK912.out 4).trans rfl
     have hfz21_0 := blk_frozen BK912.out 0
     have hfz21_1 := blk_frozen BK912.out 1
     have hfz21_2 := blk_frozen BK912.out 2
     have hfz21_3 := blk_frozen BK912.out 3
     have hfz21_4 := blk_frozen BK912.out 4
     go_wp2
     go_ret
     exact ⟨zE, zB⟩
    ·rw [if_neg c17] at H
     have c17b0 : (Op.bytesLess a0_4.toList a1_4.toList) = false := by simpa using c17
     clear c17
     replace H := Option.bind_eq_some_iff.mp H
     obtain ⟨t922, A220, H⟩ := H
     replace H : (some t922) = some r := H
     have A22 := zm A220
     clear A220
     obtain rfl := Option.some.inj H
     obtain ⟨Ao23, co23, eo23⟩ := Kd.R_slice HO_5.out
     subst eo23
     have hnb24 := NB911_912.out
     have hnc24 := NB912_911.out
     have hcz25_0 : wr.cell? ⟨gb911, 0, none⟩ = some (.int .i64 a0_0) := (blk_cell BK911.out 0).trans rfl
     have hcz25_1 : wr.cell? ⟨gb911, 1, none⟩ = some (.int .i64 a0_1) := (blk_cell BK911.out 1).trans rfl
     have hcz25_2 : wr.cell? ⟨gb911, 2, none⟩ = some (.int .i64 a0_2) := (blk_cell BK911.out 2).trans rfl
     have hcz25_3 : wr.cell? ⟨gb911, 3, none⟩ = some (.int .i64 a0_3) := (blk_cell BK911.out 3).trans rfl
     have hcz25_4 : wr.cell? ⟨gb911, 4, none⟩ = some (.string a0_4) := (blk_cell BK911.out 4).trans rfl
     have hfz25_0 := blk_frozen BK911.out 0
     have hfz25_1 := blk_frozen BK911.out 1
     have hfz25_2 := blk_frozen BK911.out 2
     have hfz25_3 := blk_frozen BK911.out 3
     have hfz25_4 := blk_frozen BK911.out 4
     have hcz26_0 : wr.cell? ⟨gb912, 0, none⟩ = some (.int .i64 a1_0) := (blk_cell BK912.out 0).trans rfl
     have hcz26_1 : wr.cell? ⟨gb912, 1, none⟩ = some (.int .i64 a1_1) := (blk_cell BK912.out 1).trans rfl
     have hcz26_2 : wr.cell? ⟨gb912, 2, none⟩ = some (.int .i64 a1_2) := (blk_cell BK912.out 2).trans rfl
     have hcz26_3 : wr.cell? ⟨gb912, 3, none⟩ = some (.int .i64 a1_3) := (blk_cell BK912.out 3).trans rfl
     have hcz26_4 : wr.cell? ⟨gb912, 4, none⟩ = some (.string a1_4) := (blk_cell BK912.out 4).trans rfl
     have hfz26_0 := blk_frozen BK912.out 0
     have hfz26_1 := blk_frozen BK912.out 1
     have hfz26_2 := blk_frozen BK912.out 2
     have hfz26_3 := blk_frozen BK912.out 3
     have hfz26_4 := blk_frozen BK912.out 4
     go_wp2_with (first | ((with_reducible refine gate_callee (f := 105) rfl ?_); refine zg (some 53) #[.bool (!(a0_4.toList == a1_4.toList))] Try.func105 ?_; (with_reducible refine (spec_l1Bit.calls (!(a0_4.toList == a1_4.toList)) t922 _ A22.out).mono ?_); rintro e w' ⟨rfl, ⟨nd, rfl⟩⟩; refine ⟨_, rfl, ?_⟩))
     go_ret
     exact ⟨zE, zB⟩

end Go.Proofs.Ytgapdegniepjiaa.P
