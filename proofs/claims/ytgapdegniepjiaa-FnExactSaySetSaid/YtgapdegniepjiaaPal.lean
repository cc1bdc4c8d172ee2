-- by a program of this session, for this seat
import Derived.Test.YtgapdegniepjiaaZ
import Derived.Test.YtgapdegniepjiaaP0
import Derived.Test.YtgapdegniepjiaaPak
import Derived.Test.YtgapdegniepjiaaPae
import Derived.Test.YtgapdegniepjiaaPac
namespace Go.Proofs.Ytgapdegniepjiaa.P
open Go.RowKit Go.Proofs.YtgapdegniepjiaaW.PrintWords Go.Proofs.YtgapdegniepjiaaW.PrintLast Go.Proofs.YtgapdegniepjiaaW.PrintMore Go.Proofs.Ytgapdegniepjiaa.Z
attribute [local go_sem] max2_int min2_int max_two min_two max_three min_three max_four min_four   -- for this text's walks alone
set_option linter.unusedVariables false
set_option linter.unusedSimpArgs false

/-! ### spec_SayGone: function 24 -/
def spec_SayGone.f (k : Nat) (l0_0 : List (S68)) (l0_1 : List (S72)) (a1 : Int) : Option ((List (S68)) × (List (S72)) × Int) := (spec_l5Up.f k l0_0 l0_1 a1).bind fun bt453 => (if bt453.2.2.2.2.2 = 0 then ((spec_l5One.f k a1 bt453.1 1 bt453.2.2.1 bt453.2.2.2.1 bt453.2.2.2.2.1).bind fun bt460 => (some (bt460.1, bt460.2.1, bt460.2.2))) else (some (([] : List (S68)), ([] : List (S72)), bt453.2.2.2.2.2)))
theorem spec_SayGone.mono : ∀ a0 a1 a2 k, LeO (spec_SayGone.f k a0 a1 a2) (spec_SayGone.f (k + 1) a0 a1 a2) := by
 intro a0 a1 a2 k
 unfold spec_SayGone.f
 repeat' first
   | (with_reducible exact spec_l5One.mono _ _ _ _ _ _ _)
   | (with_reducible exact spec_l5Up.mono _ _ _ _)
   | (with_reducible exact LeO.refl _)
   | (with_reducible exact LeO.none _)
   | (with_reducible refine LeO.ite ?_ ?_)
   | (with_reducible refine LeO.bind ?_ (fun _ => ?_))
   | exact spec_l5One.mono _ _ _ _ _ _ _
   | exact spec_l5Up.mono _ _ _ _
   | exact LeO.none _
   | refine LeO.ite ?_ ?_
   | refine LeO.bind ?_ (fun _ => ?_)
set_option maxHeartbeats 8000000 in
set_option maxRecDepth 100000 in
theorem spec_SayGone.calls (k : Nat) (A0_0 : Option Addr) (c0_0 : Nat) (l0_0 : List (S68)) (A0_1 : Option Addr) (c0_1 : Nat) (l0_1 : List (S72)) (a1 : Int) (r1 : List (S68)) (r2 : List (S72)) (r3 : Int) (w : World) (hr0_0 : Kd.C k68 w A0_0 l0_0.length l0_0) (hc0_0 : l0_0.length ≤ c0_0) (hr0_1 : Kd.C k72 w A0_1 l0_1.length l0_1) (hc0_1 : l0_1.length ≤ c0_1) (h : spec_SayGone.f k l0_0 l0_1 a1 = some (r1, r2, r3)) :
  Calls Try.prog 24 #[.agg #[.slice A0_0 l0_0.length c0_0, .slice A0_1 l0_1.length c0_1], .int .i64 a1] w fun e w' => ∃ v0_ v1_ : Value, e = .returned (.tuple #[.agg #[v0_, v1_], .int .i64 r3]) ∧ Kd.R k68 68 w' w.heap.size (fun _ => True) v0_ r1 ∧ Kd.R k72 72 w' w.heap.size (fun _ => True) v1_ r2 ∧ Below w.heap.size w w' := by
 have hu32 := Try.underlying32
 have hu66 := Try.underlying66
 have HR0_0 := zm hr0_0
 have HC0_0 := zm hc0_0
 clear hr0_0 hc0_0
 have HR0_1 := zm hr0_1
 have HC0_1 := zm hc0_1
 clear hr0_1 hc0_1
 have HB := zm (Below.refl w.heap.size w)
 have H : ((spec_l5Up.f k l0_0 l0_1 a1).bind fun bt453 => (if bt453.2.2.2.2.2 = 0 then ((spec_l5One.f k a1 bt453.1 1 bt453.2.2.1 bt453.2.2.2.1 bt453.2.2.2.2.1).bind fun bt460 => (some (bt460.1, bt460.2.1, bt460.2.2))) else (some (([] : List (S68)), ([] : List (S72)), bt453.2.2.2.2.2)))) = some (r1, r2, r3) := h
 clear h
 replace H := Option.bind_eq_some_iff.mp H
 obtain ⟨⟨t453, t454, t455, t456, t457, t458⟩, A30, H⟩ := H
 replace H : (if t458 = 0 then ((spec_l5One.f k a1 t453 1 t455 t456 t457).bind fun bt460 => (some (bt460.1, bt460.2.1, bt460.2.2))) else (some (([] : List (S68)), ([] : List (S72)), t458))) = some (r1, r2, r3) := H
 have A3 := zm A30
 clear A30
 by_cases c4 : t458 = 0
 ·rw [if_pos c4] at H
  have c4b0 : (t458 == 0) = true := beq_iff_eq.mpr c4
  have c4b1 : (t458 != 0) = false := bne_eq_false_iff_eq.mpr c4
  clear c4
  replace H := Option.bind_eq_some_iff.mp H
  obtain ⟨⟨t460, t463, t466⟩, A50, H⟩ := H
  replace H : (some (t460, t463, t466)) = some (r1, r2, r3) := H
  have A5 := zm A50
  clear A50
  simp only [Option.some.injEq, Prod.mk.injEq] at H
  obtain ⟨rfl, rfl, rfl⟩ := H
  go_enter Try.func24, Try.ntmps24
  go_wp2_with (first | ((with_reducible refine gate_dst (N := 2) rfl ?_); refine zbox 2 #[.slice A0_0 l0_0.length c0_0, .slice A0_1 l0_1.length c0_1] 32 ?_; intro gb451 hg w6 hbox hb; have BK451 := zm (hbox); have GW451 := zge w hg zB; have GE451 := zge w hg zB; replace HB := zm (below_step zB hb); clear hb hbox hg) | ((with_reducible refine gate_dst (N := 4) rfl ?_); refine zbox 4 #[.slice none 0 0, .slice none 0 0] 32 ?_; intro gb452 hg w7 hbox hb; have BK452 := zm (hbox); have GW452 := zge w hg zB; have GE452 := zge w hg zB; replace HB := zm (below_step zB hb); have NB451_452 := zlt hg (zb BK451); have NB452_451 := zgt hg (zb BK451); replace BK451 := zm (blk_below (zb BK451) hb); clear hb hbox hg; have hnb8 := NB451_452.out; have hnc8 := NB452_451.out; have hcz9_0 : w7.cell? ⟨gb451, 0, none⟩ = some (.slice A0_0 l0_0.length c0_0) := (blk_cell BK451.out 0).trans rfl; have hcz9_1 : w7.cell? ⟨gb451, 1, none⟩ = some (.slice A0_1 l0_1.length c0_1) := (blk_cell BK451.out 1).trans rfl; have hfz9_0 := blk_frozen BK451.out 0; have hfz9_1 := blk_frozen BK451.out 1) | ((with_reducible refine gate_callee (f := 66) rfl ?_); refine zg (some 11) #[.agg #[.slice A0_0 l0_0.length c0_0, .slice A0_1 l0_1.length c0_1], .int .i64 a1] Try.func66 ?_; (with_reducible refine (spec_l5Up.calls k _ _ l0_0 _ _ l0_1 a1 t453 t454 t455 t456 t457 t458 _ (zk (Kd.C_below HR0_0.out HB.out)) HC0_0.out (zk (Kd.C_below HR0_1.out HB.out)) HC0_1.out A3.out).mono ?_); rintro e w10 ⟨rfl, hb⟩; refine ⟨_, rfl, ?_⟩; replace BK451 := zm (blk_below (zb BK451) hb); replace BK452 := zm (blk_below (zb BK452) hb); replace HB := zm (below_step zB hb); clear hb) | ((with_reducible refine gate_dst (N := 6) rfl ?_); refine zbox 6 #[.int .i64 0, .int .i64 0, .int .i64 0, .int .i64 0, .string (⟨#[]⟩ : ByteArray)] 66 ?_; intro gb459 hg w11 hbox hb; have BK459 := zm (hbox); have GW459 := zge w hg zB; have GE459 := zge w hg zB; replace HB := zm (below_step zB hb); have NB451_459 := zlt hg (zb BK451); have NB459_451 := zgt hg (zb BK451); replace BK451 := zm (blk_below (zb BK451) hb); have NB452_459 := zlt hg (zb BK452); have NB459_452 := zgt hg (zb BK452); replace BK452 := zm (blk_below (zb BK452) hb); clear hb hbox hg; have hnb12 := NB459_451.out; have hnc12 := NB451_459.out; have hnb13 := NB459_452.out; have hnc13 := NB452_459.out; have hcz14_0 : w11.cell? ⟨gb459, 0, none⟩ = some (.int .i64 0) := (blk_cell BK459.out 0).trans rfl; have hcz14_1 : w11.cell? ⟨gb459, 1, none⟩ = some (.int .i64 0) := (blk_cell BK459.out 1).trans rfl; have hcz14_2 : w11.cell? ⟨gb459, 2, none⟩ = some (.int .i64 0) := (blk_cell BK459.out 2).trans rfl; have hcz14_3 : w11.cell? ⟨gb459, 3, none⟩ = some (.int .i64 0) := (blk_cell BK459.out 3).trans rfl; have hcz14_4 : w11.cell? ⟨gb459, 4, none⟩ = some (.string (⟨#[]⟩ : ByteArray)) := (blk_cell BK459.out 4).trans rfl; have hfz14_0 := blk_frozen BK459.out 0; have hfz14_1 := blk_frozen BK459.out 1; have hfz14_2 := blk_frozen BK459.out 2; have hfz14_3 := blk_frozen BK459.out 3; have hfz14_4 := blk_frozen BK459.out 4) | ((with_reducible refine gate_callee (f := 67) rfl ?_); refine zg (some 21) #[.int .i64 a1, .agg #[.int .i64 t453, .int .i64 1, .int .i64 t455, .int .i64 t456, .string t457]] Try.func67 ?_; (with_reducible refine (spec_l5One.calls k a1 t453 1 t455 t456 t457 t460 t463 t466 _ A5.out).mono ?_); rintro e w15 ⟨v461, v464, rfl, ho0, ho1, hb⟩; refine ⟨_, rfl, ?_⟩; have HO462 := zm (Kd.R_lower ho0 (below_size zB)); have HO465 := zm (Kd.R_lower ho1 (below_size zB)); replace BK451 := zm (blk_below (g := gb451) (o := .cells #[.slice A0_0 l0_0.length c0_0, .slice A0_1 l0_1.length c0_1] 32 (0, 0)) (zfar (zfar (zfar (zfar (zfar (zfar (zb BK451) NB451_459) NB451_459) NB451_459) NB451_459) NB451_459) NB451_459) hb); replace BK452 := zm (blk_below (g := gb452) (o := .cells #[.slice none 0 0, .slice none 0 0] 32 (0, 0)) (zfar (zfar (zfar (zfar (zfar (zfar (zb BK452) NB452_459) NB452_459) NB452_459) NB452_459) NB452_459) NB452_459) hb); replace BK459 := zm (blk_below (g := gb459) (o := .cells #[.int .i64 t453, .int .i64 1, .int .i64 t455, .int .i64 t456, .string t457] 66 (0, 0)) (zput (zput (zput (zput (zput (zput (zb BK459) 0) 1) 2) 3) 4) 1) hb); replace HB := zm (below_step zB hb); clear hb ho0 ho1; obtain ⟨Ao16, co16, eo16⟩ := Kd.R_slice HO462.out; subst eo16; have hcz17_0 : w15.cell? ⟨gb452, 0, none⟩ = some (.slice none 0 0) := (blk_cell BK452.out 0).trans rfl; have hcz17_1 : w15.cell? ⟨gb452, 1, none⟩ = some (.slice none 0 0) := (blk_cell BK452.out 1).trans rfl; have hfz17_0 := blk_frozen BK452.out 0; have hfz17_1 := blk_frozen BK452.out 1; obtain ⟨Ao18, co18, eo18⟩ := Kd.R_slice HO465.out; subst eo18))
  refine bodyPost_ret (results_ct rfl _ _ gb452 32 #[.slice Ao16 t460.length co16, .slice Ao18 t463.length co18] (0, 0) _ rfl (zput (zput (zb BK452) 0) 1) Try.underlying32 rfl (by kernel_rfl)) rfl ?_
  exact ⟨_, _, zE, zrs <| Kd.R_mono (zfr (zfr (Kd.R_types HO462.out BK452.out (by decide)))) (fun _ hk => trivial), zrs <| Kd.R_mono (zfr (zfr (Kd.R_types HO465.out BK452.out (by decide)))) (fun _ hk => trivial), zB⟩
 ·rw [if_neg c4] at H
  have c4b0 : (t458 == 0) = false := beq_eq_false_iff_ne.mpr c4
  have c4b1 : (t458 != 0) = true := bne_iff_ne.mpr c4
  simp only [Option.some.injEq, Prod.mk.injEq] at H
  obtain ⟨rfl, rfl, rfl⟩ := H
  go_enter Try.func24, Try.ntmps24
  go_wp2_with (first | ((with_reducible refine gate_dst (N := 2) rfl ?_); refine zbox 2 #[.slice A0_0 l0_0.length c0_0, .slice A0_1 l0_1.length c0_1] 32 ?_; intro gb451 hg w19 hbox hb; have BK451 := zm (hbox); have GW451 := zge w hg zB; have GE451 := zge w hg zB; replace HB := zm (below_step zB hb); clear hb hbox hg) | ((with_reducible refine gate_dst (N := 4) rfl ?_); refine zbox 4 #[.slice none 0 0, .slice none 0 0] 32 ?_; intro gb452 hg w20 hbox hb; have BK452 := zm (hbox); have GW452 := zge w hg zB; have GE452 := zge w hg zB; replace HB := zm (below_step zB hb); have NB451_452 := zlt hg (zb BK451); have NB452_451 := zgt hg (zb BK451); replace BK451 := zm (blk_below (zb BK451) hb); clear hb hbox hg; have hnb21 := NB451_452.out; have hnc21 := NB452_451.out; have hcz22_0 : w20.cell? ⟨gb451, 0, none⟩ = some (.slice A0_0 l0_0.length c0_0) := (blk_cell BK451.out 0).trans rfl; have hcz22_1 : w20.cell? ⟨gb451, 1, none⟩ = some (.slice A0_1 l0_1.length c0_1) := (blk_cell BK451.out 1).trans rfl; have hfz22_0 := blk_frozen BK451.out 0; have hfz22_1 := blk_frozen BK451.out 1) | ((with_reducible refine gate_callee (f := 66) rfl ?_); refine zg (some 11) #[.agg #[.slice A0_0 l0_0.length c0_0, .slice A0_1 l0_1.length c0_1], .int .i64 a1] Try.func66 ?_; (with_reducible refine (spec_l5Up.calls k _ _ l0_0 _ _ l0_1 a1 t453 t454 t455 t456 t457 t458 _ (zk (Kd.C_below HR0_0.out HB.out)) HC0_0.out (zk (Kd.C_below HR0_1.out HB.out)) HC0_1.out A3.out).mono ?_); rintro e w23 ⟨rfl, hb⟩; refine ⟨_, rfl, ?_⟩; replace BK451 := zm (blk_below (zb BK451) hb); replace BK452 := zm (blk_below (zb BK452) hb); replace HB := zm (below_step zB hb); clear hb) | ((with_reducible refine gate_dst (N := 6) rfl ?_); refine zbox 6 #[.int .i64 0, .int .i64 0, .int .i64 0, .int .i64 0, .string (⟨#[]⟩ : ByteArray)] 66 ?_; intro gb459 hg w24 hbox hb; have BK459 := zm (hbox); have GW459 := zge w hg zB; have GE459 := zge w hg zB; replace HB := zm (below_step zB hb); have NB451_459 := zlt hg (zb BK451); have NB459_451 := zgt hg (zb BK451); replace BK451 := zm (blk_below (zb BK451) hb); have NB452_459 := zlt hg (zb BK452); have NB459_452 := zgt hg (zb BK452); replace BK452 := zm (blk_below (zb BK452) hb); clear hb hbox hg; have hnb25 := NB459_451.out; have hnc25 := NB451_459.out; have hnb26 := NB459_452.out; have hnc26 := NB452_459.out; have hcz27_0 : w24.cell? ⟨gb459, 0, none⟩ = some (.int .i64 0) := (blk_cell BK459.out 0).trans rfl; have hcz27_1 : w24.cell? ⟨gb459, 1, none⟩ = some (.int .i64 0) := (blk_cell BK459.out 1).trans rfl; have hcz27_2 : w24.cell? ⟨gb459, 2, none⟩ = some (.int .i64 0) := (blk_cell BK459.out 2).trans rfl; have hcz27_3 : w24.cell? ⟨gb459, 3, none⟩ = some (.int .i64 0) := (blk_cell BK459.out 3).trans rfl; have hcz27_4 : w24.cell? ⟨gb459, 4, none⟩ = some (.string (⟨#[]⟩ : ByteArray)) := (blk_cell BK459.out 4).trans rfl; have hfz27_0 := blk_frozen BK459.out 0; have hfz27_1 := blk_frozen BK459.out 1; have hfz27_2 := blk_frozen BK459.out 2; have hfz27_3 := blk_frozen BK459.out 3; have hfz27_4 := blk_frozen BK459.out 4; have hcz28_0 : w24.cell? ⟨gb452, 0, none⟩ = some (.slice none 0 0) := (blk_cell BK452.out 0).trans rfl; have hcz28_1 : w24.cell? ⟨gb452, 1, none⟩ = some (.slice none 0 0) := (blk_cell BK452.out 1).trans rfl; have hfz28_0 := blk_frozen BK452.out 0; have hfz28_1 := blk_frozen BK452.out 1))
  refine bodyPost_ret (results_ct rfl _ _ gb452 32 #[.slice none 0 0, .slice none 0 0] (0, 0) _ rfl (zput (zput (zfar (zfar (zfar (zfar (zfar (zb BK452) NB452_459) NB452_459) NB452_459) NB452_459) NB452_459) 0) 1) Try.underlying32 rfl (by kernel_rfl)) rfl ?_
  exact ⟨_, _, zE, by first | exact Kd.R_nil _ _ _ _ _ | exact Kd.N_nil _ _ _ _ _ | exact Kd.V_nil _ _ _ _ _ | exact Kd.Q_nil _ _ _ _ _ | exact Kd.S_nil _ _ _ _ _, by first | exact Kd.R_nil _ _ _ _ _ | exact Kd.N_nil _ _ _ _ _ | exact Kd.V_nil _ _ _ _ _ | exact Kd.Q_nil _ _ _ _ _ | exact Kd.S_nil _ _ _ _ _, zB⟩

/-! ### impl_EntryOf: function 78 -/
def impl_EntryOf.l0 : Nat → Int → List (S68) → Int → Int → Option (Int × Int × Int × Int × ByteArray × Bool)
 | 0, _, _, _, _ => none
 | k + 1, x1, x9, x10, x11 => if x11 < x10 then (if 0 ≤ x11 then (if x11 < (x9.length : Int) then (if ((rd_T68 x9 x11).f0) = x1 then (some ((rd_T68 x9 x11).f1.f0, (rd_T68 x9 x11).f1.f1, (rd_T68 x9 x11).f1.f2, (rd_T68 x9 x11).f1.f3, (rd_T68 x9 x11).f1.f4, true)) else (impl_EntryOf.l0 k x1 x9 x10 (wrap64 (x11 + 1)))) else (none)) else (none)) else (some (0, 0, 0, 0, (⟨#[]⟩ : ByteArray), false))
def impl_EntryOf.f (k : Nat) (l0_0 : List (S68)) (l0_1 : List (S72)) (a1 : Int) : Option (Int × Int × Int × Int × ByteArray × Bool) := impl_EntryOf.l0 k a1 l0_0 (l0_0.length : Int) 0
theorem impl_EntryOf.mono_l : ∀ k, (∀ y0 y1 y2 y3, LeO (impl_EntryOf.l0 k y0 y1 y2 y3) (impl_EntryOf.l0 (k + 1) y0 y1 y2 y3))
 | 0 => fun _ _ _ _ r h => by simp [impl_EntryOf.l0] at h
 | k + 1 => by
  have ih0 := impl_EntryOf.mono_l k
  ·intro y0 y1 y2 y3
   unfold impl_EntryOf.l0
   repeat' first
   | (with_reducible exact ih0 _ _ _ _)
   | (with_reducible exact LeO.refl _)
   | (with_reducible exact LeO.none _)
   | (with_reducible refine LeO.ite ?_ ?_)
   | (with_reducible refine LeO.bind ?_ (fun _ => ?_))
   | exact ih0 _ _ _ _
   | exact LeO.none _
   | refine LeO.ite ?_ ?_
   | refine LeO.bind ?_ (fun _ => ?_)
theorem impl_EntryOf.mono : ∀ a0 a1 a2 k, LeO (impl_EntryOf.f k a0 a1 a2) (impl_EntryOf.f (k + 1) a0 a1 a2) := by
 intro a0 a1 a2 k
 have ih0 := impl_EntryOf.mono_l k
 unfold impl_EntryOf.f
 repeat' first
   | (with_reducible exact ih0 _ _ _ _)
   | (with_reducible exact LeO.refl _)
   | (with_reducible exact LeO.none _)
   | (with_reducible refine LeO.ite ?_ ?_)
   | (with_reducible refine LeO.bind ?_ (fun _ => ?_))
   | exact ih0 _ _ _ _
   | exact LeO.none _
   | refine LeO.ite ?_ ?_
   | refine LeO.bind ?_ (fun _ => ?_)
set_option maxHeartbeats 8000000 in
set_option maxRecDepth 100000 in
theorem impl_EntryOf.calls (k : Nat) (A0_0 : Option Addr) (c0_0 : Nat) (l0_0 : List (S68)) (A0_1 : Option Addr) (c0_1 : Nat) (l0_1 : List (S72)) (a1 : Int) (r1 : Int) (r2 : Int) (r3 : Int) (r4 : Int) (r5 : ByteArray) (r6 : Bool) (w : World) (hr0_0 : Kd.C k68 w A0_0 l0_0.length l0_0) (hc0_0 : l0_0.length ≤ c0_0) (hr0_1 : Kd.C k72 w A0_1 l0_1.length l0_1) (hc0_1 : l0_1.length ≤ c0_1) (h : impl_EntryOf.f k l0_0 l0_1 a1 = some (r1, r2, r3, r4, r5, r6)) :
  Calls Try.prog 78 #[.agg #[.slice A0_0 l0_0.length c0_0, .slice A0_1 l0_1.length c0_1], .int .i64 a1] w fun e w' => e = .returned (.tuple #[.agg #[.int .i64 r1, .int .i64 r2, .int .i64 r3, .int .i64 r4, .string r5], .bool r6]) ∧ Below w.heap.size w w' := by
 have hu32 := Try.underlying32
 have hu66 := Try.underlying66
 have hu68 := Try.underlying68
 have HR0_0 := zm hr0_0
 have HC0_0 := zm hc0_0
 clear hr0_0 hc0_0
 have HR0_1 := zm hr0_1
 have HC0_1 := zm hc0_1
 clear hr0_1 hc0_1
 have HB := zm (Below.refl w.heap.size w)
 have H : (impl_EntryOf.l0 k a1 l0_0 (l0_0.length : Int) 0) = some (r1, r2, r3, r4, r5, r6) := h
 clear h
 have H' := zm H
 clear H
 go_enter Try.func78, Try.ntmps78
 go_wp2_with (first | ((with_reducible refine gate_dst (N := 2) rfl ?_); refine zbox 2 #[.slice A0_0 l0_0.length c0_0, .slice A0_1 l0_1.length c0_1] 32 ?_; intro gb467 hg w3 hbox hb; have BK467 := zm (hbox); have GW467 := zge w hg zB; have GE467 := zge w hg zB; replace HB := zm (below_step zB hb); clear hb hbox hg) | ((with_reducible refine gate_dst (N := 4) rfl ?_); refine zbox 4 #[.int .i64 0, .int .i64 0, .int .i64 0, .int .i64 0, .string (⟨#[]⟩ : ByteArray)] 66 ?_; intro gb468 hg w4 hbox hb; have BK468 := zm (hbox); have GW468 := zge w hg zB; have GE468 := zge w hg zB; replace HB := zm (below_step zB hb); have NB467_468 := zlt hg (zb BK467); have NB468_467 := zgt hg (zb BK467); replace BK467 := zm (blk_below (zb BK467) hb); clear hb hbox hg; have hnb5 := NB467_468.out; have hnc5 := NB468_467.out; have hcz6_0 : w4.cell? ⟨gb467, 0, none⟩ = some (.slice A0_0 l0_0.length c0_0) := (blk_cell BK467.out 0).trans rfl; have hcz6_1 : w4.cell? ⟨gb467, 1, none⟩ = some (.slice A0_1 l0_1.length c0_1) := (blk_cell BK467.out 1).trans rfl; have hfz6_0 := blk_frozen BK467.out 0; have hfz6_1 := blk_frozen BK467.out 1))
 go_loopg [11] k (fun kq v11 w' => ∃ (x11_1 : Int) (x469000_1 : Int) (x469001_1 : Int) (x469002_1 : Int) (x469003_1 : Int) (x469004_1 : ByteArray), v11 = .int .i64 x11_1 ∧ Aside0 (impl_EntryOf.l0 kq a1 l0_0 (l0_0.length : Int) x11_1 = some (r1, r2, r3, r4, r5, r6)) ∧ Aside0 (kq ≤ k) ∧ Aside0 (w'.heap[gb467]? = some (.cells #[(.slice A0_0 l0_0.length c0_0), (.slice A0_1 l0_1.length c0_1)] 32 (0, 0))) ∧ Aside0 (w'.heap[gb468]? = some (.cells #[.int .i64 x469000_1, .int .i64 x469001_1, .int .i64 x469002_1, .int .i64 x469003_1, .string x469004_1] 66 (0, 0))) ∧ Aside0 (Below w.heap.size w w'))
 case atStart => exact ⟨(0), (0), (0), (0), (0), ((⟨#[]⟩ : ByteArray)), zF, H', ⟨Nat.le_refl _⟩, ⟨zb BK467⟩, ⟨zb BK468⟩, ⟨zB⟩⟩
 case round =>
  clear H'
  try clear p2
  try clear c5
  try clear hcz6_0
  try clear hcz6_1
  try clear hfz6_0
  try clear hfz6_1
  obtain ⟨x11_1, x469000_1, x469001_1, x469002_1, x469003_1, x469004_1, rfl, HA, HK1, BK467, BK468, HB⟩ := hrel
  cases gk with
  | zero => exact absurd HA.out (by simp [impl_EntryOf.l0])
  | succ k1 =>
   have H := HA.out
   clear HA
   simp only [impl_EntryOf.l0] at H
   by_cases c7 : x11_1 < (l0_0.length : Int)
   ·rw [if_pos c7] at H
    have c7b0 : decide (x11_1 < (l0_0.length : Int)) = true := decide_eq_true c7
    clear c7
    by_cases c8 : 0 ≤ x11_1
    ·rw [if_pos c8] at H
     have c8b0 : decide (0 ≤ x11_1) = true := decide_eq_true c8
     clear c8
     by_cases c9 : x11_1 < (l0_0.length : Int)
     ·rw [if_pos c9] at H
      have c9b0 : decide (x11_1 < (l0_0.length : Int)) = true := decide_eq_true c9
      clear c9
      by_cases c10 : ((rd_T68 l0_0 x11_1).f0) = a1
      ·rw [if_pos c10] at H
       have c10b0 : (((rd_T68 l0_0 x11_1).f0) == a1) = true := beq_iff_eq.mpr c10
       have c10b1 : (((rd_T68 l0_0 x11_1).f0) != a1) = false := bne_eq_false_iff_eq.mpr c10
       clear c10
       simp only [Option.some.injEq, Prod.mk.injEq] at H
       obtain ⟨rfl, rfl, rfl, rfl, rfl, rfl⟩ := H
       have p469 : 0 ≤ (x11_1 : Int) := zd
       have q469 : x11_1 < (l0_0.length : Int) := zd
       obtain ⟨ad469, e469, hx469_0, hx469_1, hx469_2, hx469_3, hx469_4, hx469_5⟩ := at_T68 (Kd.C_below HR0_0.out HB.out) x11_1 p469 q469
       cases e469
       replace p469 := eq_true p469
       replace q469 := eq_true q469
       go_wp2_with (first | ((with_reducible refine gate_dst (N := 7) rfl ?_); refine zbox 7 #[.int .i64 0, .int .i64 0, .int .i64 0, .int .i64 0, .int .i64 0, .string (⟨#[]⟩ : ByteArray)] 68 ?_; intro gb470 hg w11 hbox hb; have BK470 := zm (hbox); have GW470 := zge w hg zB; have GE470 := zge w hg zB; replace HB := zm (below_step zB hb); have NB467_470 := zlt hg (zb BK467); have NB470_467 := zgt hg (zb BK467); replace BK467 := zm (blk_below (zb BK467) hb); have NB468_470 := zlt hg (zb BK468); have NB470_468 := zgt hg (zb BK468); replace BK468 := zm (blk_below (zb BK468) hb); clear hb hbox hg; have hnb12 := NB470_467.out; have hnc12 := NB467_470.out; have hnb13 := NB470_468.out; have hnc13 := NB468_470.out; have hcz14_0 : w11.cell? ⟨gb470, 0, none⟩ = some (.int .i64 0) := (blk_cell BK470.out 0).trans rfl; have hcz14_1 : w11.cell? ⟨gb470, 1, none⟩ = some (.int .i64 0) := (blk_cell BK470.out 1).trans rfl; have hcz14_2 : w11.cell? ⟨gb470, 2, none⟩ = some (.int .i64 0) := (blk_cell BK470.out 2).trans rfl; have hcz14_3 : w11.cell? ⟨gb470, 3, none⟩ = some (.int .i64 0) := (blk_cell BK470.out 3).trans rfl; have hcz14_4 : w11.cell? ⟨gb470, 4, none⟩ = some (.int .i64 0) := (blk_cell BK470.out 4).trans rfl; have hcz14_5 : w11.cell? ⟨gb470, 5, none⟩ = some (.string (⟨#[]⟩ : ByteArray)) := (blk_cell BK470.out 5).trans rfl; have hfz14_0 := blk_frozen BK470.out 0; have hfz14_1 := blk_frozen BK470.out 1; have hfz14_2 := blk_frozen BK470.out 2; have hfz14_3 := blk_frozen BK470.out 3; have hfz14_4 := blk_frozen BK470.out 4; have hfz14_5 := blk_frozen BK470.out 5; have hnb15 := NB468_467.out; have hnc15 := NB467_468.out; have hcz16_0 : w11.cell? ⟨gb468, 0, none⟩ = some (.int .i64 x469000_1) := (blk_cell BK468.out 0).trans rfl; have hcz16_1 : w11.cell? ⟨gb468, 1, none⟩ = some (.int .i64 x469001_1) := (blk_cell BK468.out 1).trans rfl; have hcz16_2 : w11.cell? ⟨gb468, 2, none⟩ = some (.int .i64 x469002_1) := (blk_cell BK468.out 2).trans rfl; have hcz16_3 : w11.cell? ⟨gb468, 3, none⟩ = some (.int .i64 x469003_1) := (blk_cell BK468.out 3).trans rfl; have hcz16_4 : w11.cell? ⟨gb468, 4, none⟩ = some (.string x469004_1) := (blk_cell BK468.out 4).trans rfl; have hfz16_0 := blk_frozen BK468.out 0; have hfz16_1 := blk_frozen BK468.out 1; have hfz16_2 := blk_frozen BK468.out 2; have hfz16_3 := blk_frozen BK468.out 3; have hfz16_4 := blk_frozen BK468.out 4))
       refine bodyPost_ret (results_ct rfl _ _ gb468 66 #[.int .i64 ((rd_T68 l0_0 x11_1).f1.f0), .int .i64 ((rd_T68 l0_0 x11_1).f1.f1), .int .i64 ((rd_T68 l0_0 x11_1).f1.f2), .int .i64 ((rd_T68 l0_0 x11_1).f1.f3), .string ((rd_T68 l0_0 x11_1).f1.f4)] (0, 0) _ rfl (zput (zput (zput (zput (zput (zfar (zfar (zfar (zfar (zfar (zfar (zb BK468) NB468_470) NB468_470) NB468_470) NB468_470) NB468_470) NB468_470) 0) 1) 2) 3) 4) Try.underlying66 rfl (by kernel_rfl)) rfl ?_
       exact ⟨zE, zB⟩
      ·rw [if_neg c10] at H
       have c10b0 : (((rd_T68 l0_0 x11_1).f0) == a1) = false := beq_eq_false_iff_ne.mpr c10
       have c10b1 : (((rd_T68 l0_0 x11_1).f0) != a1) = true := bne_iff_ne.mpr c10
       have H' := zm H
       clear H
       have p469 : 0 ≤ (x11_1 : Int) := zd
       have q469 : x11_1 < (l0_0.length : Int) := zd
       obtain ⟨ad469, e469, hx469_0, hx469_1, hx469_2, hx469_3, hx469_4, hx469_5⟩ := at_T68 (Kd.C_below HR0_0.out HB.out) x11_1 p469 q469
       cases e469
       replace p469 := eq_true p469
       replace q469 := eq_true q469
       go_wp2_with (first | ((with_reducible refine gate_dst (N := 7) rfl ?_); refine zbox 7 #[.int .i64 0, .int .i64 0, .int .i64 0, .int .i64 0, .int .i64 0, .string (⟨#[]⟩ : ByteArray)] 68 ?_; intro gb470 hg w17 hbox hb; have BK470 := zm (hbox); have GW470 := zge w hg zB; have GE470 := zge w hg zB; replace HB := zm (below_step zB hb); have NB467_470 := zlt hg (zb BK467); have NB470_467 := zgt hg (zb BK467); replace BK467 := zm (blk_below (zb BK467) hb); have NB468_470 := zlt hg (zb BK468); have NB470_468 := zgt hg (zb BK468); replace BK468 := zm (blk_below (zb BK468) hb); clear hb hbox hg; have hnb18 := NB470_467.out; have hnc18 := NB467_470.out; have hnb19 := NB470_468.out; have hnc19 := NB468_470.out; have hcz20_0 : w17.cell? ⟨gb470, 0, none⟩ = some (.int .i64 0) := (blk_cell BK470.out 0).trans rfl; have hcz20_1 : w17.cell? ⟨gb470, 1, none⟩ = some (.int .i64 0) := (blk_cell BK470.out 1).trans rfl; have hcz20_2 : w17.cell? ⟨gb470, 2, none⟩ = some (.int .i64 0) := (blk_cell BK470.out 2).trans rfl; have hcz20_3 : w17.cell? ⟨gb470, 3, none⟩ = some (.int .i64 0) := (blk_cell BK470.out 3).trans rfl; have hcz20_4 : w17.cell? ⟨gb470, 4, none⟩ = some (.int .i64 0) := (blk_cell BK470.out 4).trans rfl; have hcz20_5 : w17.cell? ⟨gb470, 5, none⟩ = some (.string (⟨#[]⟩ : ByteArray)) := (blk_cell BK470.out 5).trans rfl; have hfz20_0 := blk_frozen BK470.out 0; have hfz20_1 := blk_frozen BK470.out 1; have hfz20_2 := blk_frozen BK470.out 2; have hfz20_3 := blk_frozen BK470.out 3; have hfz20_4 := blk_frozen BK470.out 4; have hfz20_5 := blk_frozen BK470.out 5))
       go_roundg k1
       case measure => have := HK1.out; omega
       case rel => exact ⟨(wrap64 (x11_1 + 1)), (x469000_1), (x469001_1), (x469002_1), (x469003_1), (x469004_1), zF, H', ⟨by have := HK1.out; omega⟩, ⟨zfar (zfar (zfar (zfar (zfar (zfar (zb BK467) NB467_470) NB467_470) NB467_470) NB467_470) NB467_470) NB467_470⟩, ⟨zfar (zfar (zfar (zfar (zfar (zfar (zb BK468) NB468_470) NB468_470) NB468_470) NB468_470) NB468_470) NB468_470⟩, ⟨zB⟩⟩
     ·rw [if_neg c9] at H
      exact absurd H (by simp)
    ·rw [if_neg c8] at H
     exact absurd H (by simp)
   ·rw [if_neg c7] at H
    have c7b0 : decide (x11_1 < (l0_0.length : Int)) = false := decide_eq_false c7
    clear c7
    simp only [Option.some.injEq, Prod.mk.injEq] at H
    obtain ⟨rfl, rfl, rfl, rfl, rfl, rfl⟩ := H
    have hnb21 := NB468_467.out
    have hnc21 := NB467_468.out
    have hcz22_0 : wr.cell? ⟨gb468, 0, none⟩ = some (.int .i64 x469000_1) := (blk_cell BK468.out 0).trans rfl
    have hcz22_1 : wr.cell? ⟨gb468, 1, none⟩ = some (.int .i64 x469001_1) := (blk_cell BK468.out 1).trans rfl
    have hcz22_2 : wr.cell? ⟨gb468, 2, none⟩ = some (.int .i64 x469002_1) := (blk_cell BK468.out 2).trans rfl
    have hcz22_3 : wr.cell? ⟨gb468, 3, none⟩ = some (.int .i64 x469003_1) := (blk_cell BK468.out 3).trans rfl
    have hcz22_4 : wr.cell? ⟨gb468, 4, none⟩ = some (.string x469004_1) := (blk_cell BK468.out 4).trans rfl
    have hfz22_0 := blk_frozen BK468.out 0
    have hfz22_1 := blk_frozen BK468.out 1
    have hfz22_2 := blk_frozen BK468.out 2
    have hfz22_3 := blk_frozen BK468.out 3
    have hfz22_4 := blk_frozen BK468.out 4
    go_wp2
    refine bodyPost_ret (results_ct rfl _ _ gb468 66 #[.int .i64 0, .int .i64 0, .int .i64 0, .int .i64 0, .string (⟨#[]⟩ : ByteArray)] (0, 0) _ rfl (zput (zput (zput (zput (zput (zb BK468) 0) 1) 2) 3) 4) Try.underlying66 rfl (by kernel_rfl)) rfl ?_
    exact ⟨zE, zB⟩

/-! ### impl_View: function 112 -/
def impl_View.l0 : Nat → List (S68) → List (S68) → Int → Int → Option ((List (S68)))
 | 0, _, _, _, _ => none
 | k + 1, x3, x12, x13, x14 => if x14 < x13 then (if 0 ≤ x14 then (if x14 < (x12.length : Int) then (if ((rd_T68 x12 x14).f1.f1) = 0 then (if x3.length < 2513169434916 then (impl_View.l0 k (x3 ++ [(⟨(rd_T68 x12 x14).f0, (⟨(rd_T68 x12 x14).f1.f0, (rd_T68 x12 x14).f1.f1, (rd_T68 x12 x14).f1.f2, (rd_T68 x12 x14).f1.f3, (rd_T68 x12 x14).f1.f4⟩ : S66)⟩ : S68)]) x12 x13 (wrap64 (x14 + 1))) else (none)) else (impl_View.l0 k x3 x12 x13 (wrap64 (x14 + 1)))) else (none)) else (none)) else (some x3)
def impl_View.f (k : Nat) (l0_0 : List (S68)) (l0_1 : List (S72)) : Option ((List (S68))) := (some (([] : List (S68)) : List (S68))).bind fun y472 => ((impl_StateOk.f k l0_0 l0_1).bind fun t475 => (if t475 = true then (impl_View.l0 k y472 l0_0 (l0_0.length : Int) 0) else (some y472)))
theorem impl_View.mono_l : ∀ k, (∀ y0 y1 y2 y3, LeO (impl_View.l0 k y0 y1 y2 y3) (impl_View.l0 (k + 1) y0 y1 y2 y3))
 | 0 => fun _ _ _ _ r h => by simp [impl_View.l0] at h
 | k + 1 => by
  have ih0 := impl_View.mono_l k
  ·intro y0 y1 y2 y3
   unfold impl_View.l0
   repeat' first
   | (with_reducible exact ih0 _ _ _ _)
   | (with_reducible exact impl_StateOk.mono _ _ _)
   | (with_reducible exact LeO.refl _)
   | (with_reducible exact LeO.none _)
   | (with_reducible refine LeO.ite ?_ ?_)
   | (with_reducible refine LeO.bind ?_ (fun _ => ?_))
   | exact ih0 _ _ _ _
   | exact impl_StateOk.mono _ _ _
   | exact LeO.none _
   | refine LeO.ite ?_ ?_
   | refine LeO.bind ?_ (fun _ => ?_)
theorem impl_View.mono : ∀ a0 a1 k, LeO (impl_View.f k a0 a1) (impl_View.f (k + 1) a0 a1) := by
 intro a0 a1 k
 have ih0 := impl_View.mono_l k
 unfold impl_View.f
 repeat' first
   | (with_reducible exact ih0 _ _ _ _)
   | (with_reducible exact impl_StateOk.mono _ _ _)
   | (with_reducible exact LeO.refl _)
   | (with_reducible exact LeO.none _)
   | (with_reducible refine LeO.ite ?_ ?_)
   | (with_reducible refine LeO.bind ?_ (fun _ => ?_))
   | exact ih0 _ _ _ _
   | exact impl_StateOk.mono _ _ _
   | exact LeO.none _
   | refine LeO.ite ?_ ?_
   | refine LeO.bind ?_ (fun _ => ?_)
set_option maxHeartbeats 8000000 in
set_option maxRecDepth 100000 in
theorem impl_View.calls (k : Nat) (A0_0 : Option Addr) (c0_0 : Nat) (l0_0 : List (S68)) (A0_1 : Option Addr) (c0_1 : Nat) (l0_1 : List (S72)) (r : List (S68)) (w : World) (hr0_0 : Kd.C k68 w A0_0 l0_0.length l0_0) (hc0_0 : l0_0.length ≤ c0_0) (hr0_1 : Kd.C k72 w A0_1 l0_1.length l0_1) (hc0_1 : l0_1.length ≤ c0_1) (h : impl_View.f k l0_0 l0_1 = some r) :
  Calls Try.prog 112 #[.agg #[.slice A0_0 l0_0.length c0_0, .slice A0_1 l0_1.length c0_1]] w fun e w' => ∃ v0_ : Value, e = .returned (v0_) ∧ Kd.R k68 68 w' w.heap.size (fun _ => True) v0_ r ∧ Below w.heap.size w w' := by
 have hu32 := Try.underlying32
 have hu68 := Try.underlying68
 have HR0_0 := zm hr0_0
 have HC0_0 := zm hc0_0
 clear hr0_0 hc0_0
 have HR0_1 := zm hr0_1
 have HC0_1 := zm hc0_1
 clear hr0_1 hc0_1
 have HB := zm (Below.refl w.heap.size w)
 have H : ((some (([] : List (S68)) : List (S68))).bind fun y472 => ((impl_StateOk.f k l0_0 l0_1).bind fun t475 => (if t475 = true then (impl_View.l0 k y472 l0_0 (l0_0.length : Int) 0) else (some y472)))) = some r := h
 clear h
 obtain ⟨y472, hy472⟩ : ∃ y_ : List (S68), y_ = (([] : List (S68))) := ⟨_, rfl⟩
 replace H : ((impl_StateOk.f k l0_0 l0_1).bind fun t475 => (if t475 = true then (impl_View.l0 k y472 l0_0 (l0_0.length : Int) 0) else (some y472))) = some r := by first | (rw [hy472]; with_reducible exact H) | (have H2_ := (Option.bind_some _ _).symm.trans H; rw [hy472]; with_reducible exact H2_) | (have H2_ := (Option.bind_some _ _).symm.trans H; with_reducible exact H2_) | with_reducible exact H | (rw [hy472]; exact H) | exact H
 have Ny472 := zm hy472
 clear hy472
 replace H := Option.bind_eq_some_iff.mp H
 obtain ⟨t475, A20, H⟩ := H
 replace H : (if t475 = true then (impl_View.l0 k y472 l0_0 (l0_0.length : Int) 0) else (some y472)) = some r := H
 have A2 := zm A20
 clear A20
 by_cases c3 : t475 = true
 ·subst c3
  have H1 : (impl_View.l0 k y472 l0_0 (l0_0.length : Int) 0) = some r := by rw [if_pos rfl] at H; exact H
  clear H
  have H := H1
  clear H1
  have H' := zm H
  clear H
  go_enter Try.func112, Try.ntmps112
  go_wp2_with (first | ((with_reducible refine gate_dst (N := 1) rfl ?_); refine zbox 1 #[.slice A0_0 l0_0.length c0_0, .slice A0_1 l0_1.length c0_1] 32 ?_; intro gb471 hg w4 hbox hb; have BK471 := zm (hbox); have GW471 := zge w hg zB; have GE471 := zge w hg zB; replace HB := zm (below_step zB hb); clear hb hbox hg) | ((with_reducible refine gate_dst (N := 6) rfl ?_); refine Kd.R_lit k68 _ 68 ?hg (N := 6) ?hd (xs := ([] : List (S68))) (inner := []) (ok := fun _ => True) (okp := fun _ => True) ?hr ?hp (fun _ hk => hk) trivial (Below.refl _ _) (Nat.le_refl _) (by simp) ?_; (case hd => rfl); (case hg => rfl); (case hr => first | (go_simp; done) | (go_simp; rfl)); (case hp => exact (Reps.none _ _)); intro v473 w5 ho6 hb hg_ hnew_; clear hg_ hnew_; (first | rw [← Ny472.out] at ho6 | (simp only [Int.reduceToNat] at ho6; rw [← Ny472.out] at ho6)); have HO474 := zm (Kd.R_lower ho6 (below_size zB)); replace BK471 := zm (blk_below (zb BK471) hb); replace HB := zm (below_step zB hb); clear hb ho6; have hcz7_0 : w5.cell? ⟨gb471, 0, none⟩ = some (.slice A0_0 l0_0.length c0_0) := (blk_cell BK471.out 0).trans rfl; have hcz7_1 : w5.cell? ⟨gb471, 1, none⟩ = some (.slice A0_1 l0_1.length c0_1) := (blk_cell BK471.out 1).trans rfl; have hfz7_0 := blk_frozen BK471.out 0; have hfz7_1 := blk_frozen BK471.out 1) | ((with_reducible refine gate_callee (f := 53) rfl ?_); refine zg (some 8) #[.agg #[.slice A0_0 l0_0.length c0_0, .slice A0_1 l0_1.length c0_1]] Try.func53 ?_; (with_reducible refine (impl_StateOk.calls k _ _ l0_0 _ _ l0_1 true _ (zk (Kd.C_below HR0_0.out HB.out)) HC0_0.out (zk (Kd.C_below HR0_1.out HB.out)) HC0_1.out A2.out).mono ?_); rintro e w8 ⟨rfl, hb⟩; refine ⟨_, rfl, ?_⟩; replace HO474 := zm (Kd.R_below (zr HO474) hb); replace BK471 := zm (blk_below (zb BK471) hb); replace HB := zm (below_step zB hb); clear hb; have hcz9_0 : w8.cell? ⟨gb471, 0, none⟩ = some (.slice A0_0 l0_0.length c0_0) := (blk_cell BK471.out 0).trans rfl; have hcz9_1 : w8.cell? ⟨gb471, 1, none⟩ = some (.slice A0_1 l0_1.length c0_1) := (blk_cell BK471.out 1).trans rfl; have hfz9_0 := blk_frozen BK471.out 0; have hfz9_1 := blk_frozen BK471.out 1))
  go_loopg [3, 14] k (fun kq v3 v14 w' => ∃ (x3_1 : List (S68)) (x14_1 : Int), v14 = .int .i64 x14_1 ∧ Aside0 (impl_View.l0 kq x3_1 l0_0 (l0_0.length : Int) x14_1 = some r) ∧ Aside0 (kq ≤ k) ∧ Aside0 (Kd.R k68 68 w' w.heap.size (fun _ => True) v3 x3_1) ∧ Aside0 (w'.heap[gb471]? = some (.cells #[(.slice A0_0 l0_0.length c0_0), (.slice A0_1 l0_1.length c0_1)] 32 (0, 0))) ∧ Aside0 (Below w.heap.size w w'))
  case atStart => exact ⟨(y472), (0), zF, H', ⟨Nat.le_refl _⟩, ⟨zr HO474⟩, ⟨zb BK471⟩, ⟨zB⟩⟩
  case round =>
   clear H'
   try clear c1
   try clear p2
   try clear c3
   try clear c5
   try clear hcz7_0
   try clear hcz7_1
   try clear hcz9_0
   try clear hcz9_1
   try clear hfz7_0
   try clear hfz7_1
   try clear hfz9_0
   try clear hfz9_1
   obtain ⟨x3_1, x14_1, rfl, HA, HK1, HO_3, BK471, HB⟩ := hrel
   cases gk with
   | zero => exact absurd HA.out (by simp [impl_View.l0])
   | succ k1 =>
    have H := HA.out
    clear HA
    simp only [impl_View.l0] at H
    by_cases c10 : x14_1 < (l0_0.length : Int)
    ·rw [if_pos c10] at H
     have c10b0 : decide (x14_1 < (l0_0.length : Int)) = true := decide_eq_true c10
     clear c10
     by_cases c11 : 0 ≤ x14_1
     ·rw [if_pos c11] at H
      have c11b0 : decide (0 ≤ x14_1) = true := decide_eq_true c11
      clear c11
      by_cases c12 : x14_1 < (l0_0.length : Int)
      ·rw [if_pos c12] at H
       have c12b0 : decide (x14_1 < (l0_0.length : Int)) = true := decide_eq_true c12
       clear c12
       by_cases c13 : ((rd_T68 l0_0 x14_1).f1.f1) = 0
       ·rw [if_pos c13] at H
        have c13b0 : (((rd_T68 l0_0 x14_1).f1.f1) == 0) = true := beq_iff_eq.mpr c13
        have c13b1 : (((rd_T68 l0_0 x14_1).f1.f1) != 0) = false := bne_eq_false_iff_eq.mpr c13
        clear c13
        by_cases c14 : x3_1.length < 2513169434916
        ·rw [if_pos c14] at H
         have LMc14 := zm c14
         clear c14
         obtain ⟨y478, hy478⟩ : ∃ y_ : List (S68), y_ = (x3_1 ++ [(⟨(rd_T68 l0_0 x14_1).f0, (⟨(rd_T68 l0_0 x14_1).f1.f0, (rd_T68 l0_0 x14_1).f1.f1, (rd_T68 l0_0 x14_1).f1.f2, (rd_T68 l0_0 x14_1).f1.f3, (rd_T68 l0_0 x14_1).f1.f4⟩ : S66)⟩ : S68)]) := ⟨_, rfl⟩
         replace H : (impl_View.l0 k1 y478 l0_0 (l0_0.length : Int) (wrap64 (x14_1 + 1))) = some r := by first | (rw [hy478]; with_reducible exact H) | (have H2_ := (Option.bind_some _ _).symm.trans H; rw [hy478]; with_reducible exact H2_) | (have H2_ := (Option.bind_some _ _).symm.trans H; with_reducible exact H2_) | with_reducible exact H | (rw [hy478]; exact H) | exact H
         have Ny478 := zm hy478
         clear hy478
         have H' := zm H
         clear H
         have p476 : 0 ≤ (x14_1 : Int) := zd
         have q476 : x14_1 < (l0_0.length : Int) := zd
         obtain ⟨ad476, e476, hx476_0, hx476_1, hx476_2, hx476_3, hx476_4, hx476_5⟩ := at_T68 (Kd.C_below HR0_0.out HB.out) x14_1 p476 q476
         cases e476
         replace p476 := eq_true p476
         replace q476 := eq_true q476
         go_wp2_with (first | ((with_reducible refine gate_dst (N := 5) rfl ?_); refine zbox 5 #[.int .i64 0, .int .i64 0, .int .i64 0, .int .i64 0, .int .i64 0, .string (⟨#[]⟩ : ByteArray)] 68 ?_; intro gb477 hg w15 hbox hb; replace HO_3 := zm (Kd.R_below (Kd.R_elderB (zr HO_3) gb477 (Nat.le_of_eq hg.symm)) hb); have BK477 := zm (hbox); have GW477 := zge w hg zB; have GE477 := zge w hg zB; replace HB := zm (below_step zB hb); have NB471_477 := zlt hg (zb BK471); have NB477_471 := zgt hg (zb BK471); replace BK471 := zm (blk_below (zb BK471) hb); clear hb hbox hg; have hnb16 := NB477_471.out; have hnc16 := NB471_477.out; have hcz17_0 : w15.cell? ⟨gb477, 0, none⟩ = some (.int .i64 0) := (blk_cell BK477.out 0).trans rfl; have hcz17_1 : w15.cell? ⟨gb477, 1, none⟩ = some (.int .i64 0) := (blk_cell BK477.out 1).trans rfl; have hcz17_2 : w15.cell? ⟨gb477, 2, none⟩ = some (.int .i64 0) := (blk_cell BK477.out 2).trans rfl; have hcz17_3 : w15.cell? ⟨gb477, 3, none⟩ = some (.int .i64 0) := (blk_cell BK477.out 3).trans rfl; have hcz17_4 : w15.cell? ⟨gb477, 4, none⟩ = some (.int .i64 0) := (blk_cell BK477.out 4).trans rfl; have hcz17_5 : w15.cell? ⟨gb477, 5, none⟩ = some (.string (⟨#[]⟩ : ByteArray)) := (blk_cell BK477.out 5).trans rfl; have hfz17_0 := blk_frozen BK477.out 0; have hfz17_1 := blk_frozen BK477.out 1; have hfz17_2 := blk_frozen BK477.out 2; have hfz17_3 := blk_frozen BK477.out 3; have hfz17_4 := blk_frozen BK477.out 4; have hfz17_5 := blk_frozen BK477.out 5) | ((with_reducible refine gate_builtin (b := .append) (xs := #[.tmp 22, .tmp 24]) rfl ?_); at_builtin; refine Kd.R_append k68 (w0 := w) w.heap.size rfl (.tmp 22) (.tmp 24) 29 68 (.agg #[(.int .i64 0), (.int .i64 0), (.int .i64 0), (.int .i64 0), (.int .i64 0), (.string ⟨#[]⟩)]) 56 rfl Try.underlying29 info68 rfl (by decide) (by omega) u3 x3_1 (⟨(rd_T68 l0_0 x14_1).f0, (⟨(rd_T68 l0_0 x14_1).f1.f0, (rd_T68 l0_0 x14_1).f1.f1, (rd_T68 l0_0 x14_1).f1.f2, (rd_T68 l0_0 x14_1).f1.f3, (rd_T68 l0_0 x14_1).f1.f4⟩ : S66)⟩ : S68) [.int .i64 ((rd_T68 l0_0 x14_1).f0), .int .i64 ((rd_T68 l0_0 x14_1).f1.f0), .int .i64 ((rd_T68 l0_0 x14_1).f1.f1), .int .i64 ((rd_T68 l0_0 x14_1).f1.f2), .int .i64 ((rd_T68 l0_0 x14_1).f1.f3), .string ((rd_T68 l0_0 x14_1).f1.f4)] (fun k_ => k_ ≠ gb477) (fun _ => False) rfl (by first | (go_simp; done) | (go_simp; rfl)) ?aP (fun _ hk => hk.elim) ?aF ?aO ?aB ?aS ?aL ?_; (case aP => exact k68_mkM _ _ _ (⟨(rd_T68 l0_0 x14_1).f0, (⟨(rd_T68 l0_0 x14_1).f1.f0, (rd_T68 l0_0 x14_1).f1.f1, (rd_T68 l0_0 x14_1).f1.f2, (rd_T68 l0_0 x14_1).f1.f3, (rd_T68 l0_0 x14_1).f1.f4⟩ : S66)⟩ : S68)); (case aB => exact zB); (case aF => exact (fun k_ hk => Kd.freshB (g := gb477) (o := .cells #[.int .i64 ((rd_T68 l0_0 x14_1).f0), .int .i64 ((rd_T68 l0_0 x14_1).f1.f0), .int .i64 ((rd_T68 l0_0 x14_1).f1.f1), .int .i64 ((rd_T68 l0_0 x14_1).f1.f2), .int .i64 ((rd_T68 l0_0 x14_1).f1.f3), .string ((rd_T68 l0_0 x14_1).f1.f4)] 68 (0, 0)) (zput (zput (zput (zput (zput (zput (zb BK477) 0) 1) 2) 3) 4) 5) k_ hk)); (case aO => exact (zrs <| Kd.R_mono (zfr (zfr (zfr (zfr (zfr (zfr (Kd.R_mono HO_3.out (fun k_ hk => (⟨hk, hk.2⟩ : _ ∧ k_ ≠ gb477))))))))) (fun _ hk => hk.1.2))); (case aS => exact (below_size zB)); (case aL => have := LMc14.out; omega); intro v479 w18 ho hb hg hat; rw [← Ny478.out] at ho; replace BK471 := zm (blk_grown (g := gb471) (o := .cells #[.slice (some ad476) l0_0.length c0_0, .slice A0_1 l0_1.length c0_1] 32 (0, 0)) (zfar (zfar (zfar (zfar (zfar (zfar (zb BK471) NB471_477) NB471_477) NB471_477) NB471_477) NB471_477) NB471_477) hg (Kd.R_ne HO_3.out BK471.out (by decide))); replace BK477 := zm (blk_grown (g := gb477) (o := .cells #[.int .i64 ((rd_T68 l0_0 x14_1).f0), .int .i64 ((rd_T68 l0_0 x14_1).f1.f0), .int .i64 ((rd_T68 l0_0 x14_1).f1.f1), .int .i64 ((rd_T68 l0_0 x14_1).f1.f2), .int .i64 ((rd_T68 l0_0 x14_1).f1.f3), .string ((rd_T68 l0_0 x14_1).f1.f4)] 68 (0, 0)) (zput (zput (zput (zput (zput (zput (zb BK477) 0) 1) 2) 3) 4) 5) hg (Kd.R_away HO_3.out (fun _ hk => hk.2))); replace HB := zm (hb); have HO480 := zm (ho); clear HO_3; clear ho hb hg hat))
         go_roundg k1
         case measure => have := HK1.out; omega
         case rel => exact ⟨(y478), (wrap64 (x14_1 + 1)), zF, H', ⟨by have := HK1.out; omega⟩, ⟨by (with_reducible repeat (first | apply Kd.R_alloc | apply Kd.R_drewN | apply Kd.R_drew)); exact Kd.R_mono HO480.out (fun _ hk => trivial)⟩, ⟨zb BK471⟩, ⟨zB⟩⟩
        ·rw [if_neg c14] at H
         exact absurd H (by simp)
       ·rw [if_neg c13] at H
        have c13b0 : (((rd_T68 l0_0 x14_1).f1.f1) == 0) = false := beq_eq_false_iff_ne.mpr c13
        have c13b1 : (((rd_T68 l0_0 x14_1).f1.f1) != 0) = true := bne_iff_ne.mpr c13
        have H' := zm H
        clear H
        have p476 : 0 ≤ (x14_1 : Int) := zd
        have q476 : x14_1 < (l0_0.length : Int) := zd
        obtain ⟨ad476, e476, hx476_0, hx476_1, hx476_2, hx476_3, hx476_4, hx476_5⟩ := at_T68 (Kd.C_below HR0_0.out HB.out) x14_1 p476 q476
        cases e476
        replace p476 := eq_true p476
        replace q476 := eq_true q476
        go_wp2_with (first | ((with_reducible refine gate_dst (N := 5) rfl ?_); refine zbox 5 #[.int .i64 0, .int .i64 0, .int .i64 0, .int .i64 0, .int .i64 0, .string (⟨#[]⟩ : ByteArray)] 68 ?_; intro gb477 hg w19 hbox hb; replace HO_3 := zm (Kd.R_below (Kd.R_elderB (zr HO_3) gb477 (Nat.le_of_eq hg.symm)) hb); have BK477 := zm (hbox); have GW477 := zge w hg zB; have GE477 := zge w hg zB; replace HB := zm (below_step zB hb); have NB471_477 := zlt hg (zb BK471); have NB477_471 := zgt hg (zb BK471); replace BK471 := zm (blk_below (zb BK471) hb); clear hb hbox hg; have hnb20 := NB477_471.out; have hnc20 := NB471_477.out; have hcz21_0 : w19.cell? ⟨gb477, 0, none⟩ = some (.int .i64 0) := (blk_cell BK477.out 0).trans rfl; have hcz21_1 : w19.cell? ⟨gb477, 1, none⟩ = some (.int .i64 0) := (blk_cell BK477.out 1).trans rfl; have hcz21_2 : w19.cell? ⟨gb477, 2, none⟩ = some (.int .i64 0) := (blk_cell BK477.out 2).trans rfl; have hcz21_3 : w19.cell? ⟨gb477, 3, none⟩ = some (.int .i64 0) := (blk_cell BK477.out 3).trans rfl; have hcz21_4 : w19.cell? ⟨gb477, 4, none⟩ = some (.int .i64 0) := (blk_cell BK477.out 4).trans rfl; have hcz21_5 : w19.cell? ⟨gb477, 5, none⟩ = some (.string (⟨#[]⟩ : ByteArray)) := (blk_cell BK477.out 5).trans rfl; have hfz21_0 := blk_frozen BK477.out 0; have hfz21_1 := blk_frozen BK477.out 1; have hfz21_2 := blk_frozen BK477.out 2; have hfz21_3 := blk_frozen BK477.out 3; have hfz21_4 := blk_frozen BK477.out 4; have hfz21_5 := blk_frozen BK477.out 5))
        go_roundg k1
        case measure => have := HK1.out; omega
        case rel => exact ⟨(x3_1), (wrap64 (x14_1 + 1)), zF, H', ⟨by have := HK1.out; omega⟩, ⟨zrs <| Kd.R_mono (zfr (zfr (zfr (zfr (zfr (zfr (Kd.R_mono HO_3.out (fun k_ hk => (⟨hk, hk.2⟩ : _ ∧ k_ ≠ gb477))))))))) (fun _ hk => trivial)⟩, ⟨zfar (zfar (zfar (zfar (zfar (zfar (zb BK471) NB471_477) NB471_477) NB471_477) NB471_477) NB471_477) NB471_477⟩, ⟨zB⟩⟩
      ·rw [if_neg c12] at H
       exact absurd H (by simp)
     ·rw [if_neg c11] at H
      exact absurd H (by simp)
    ·rw [if_neg c10] at H
     have c10b0 : decide (x14_1 < (l0_0.length : Int)) = false := decide_eq_false c10
     clear c10
     obtain rfl := Option.some.inj H
     go_wp2
     go_ret
     exact ⟨_, zE, zr HO_3, zB⟩
 ·replace c3 := Bool.eq_false_iff.mpr c3
  subst c3
  have H1 : (some y472) = some r := by rw [if_neg (show ¬ (false = true) by decide)] at H; exact H
  clear H
  have H := H1
  clear H1
  obtain rfl := Option.some.inj H
  go_enter Try.func112, Try.ntmps112
  go_wp2_with (first | ((with_reducible refine gate_dst (N := 1) rfl ?_); refine zbox 1 #[.slice A0_0 l0_0.length c0_0, .slice A0_1 l0_1.length c0_1] 32 ?_; intro gb471 hg w22 hbox hb; have BK471 := zm (hbox); have GW471 := zge w hg zB; have GE471 := zge w hg zB; replace HB := zm (below_step zB hb); clear hb hbox hg) | ((with_reducible refine gate_dst (N := 6) rfl ?_); refine Kd.R_lit k68 _ 68 ?hg (N := 6) ?hd (xs := ([] : List (S68))) (inner := []) (ok := fun _ => True) (okp := fun _ => True) ?hr ?hp (fun _ hk => hk) trivial (Below.refl _ _) (Nat.le_refl _) (by simp) ?_; (case hd => rfl); (case hg => rfl); (case hr => first | (go_simp; done) | (go_simp; rfl)); (case hp => exact (Reps.none _ _)); intro v473 w23 ho24 hb hg_ hnew_; clear hg_ hnew_; (first | rw [← Ny472.out] at ho24 | (simp only [Int.reduceToNat] at ho24; rw [← Ny472.out] at ho24)); have HO474 := zm (Kd.R_lower ho24 (below_size zB)); replace BK471 := zm (blk_below (zb BK471) hb); replace HB := zm (below_step zB hb); clear hb ho24; have hcz25_0 : w23.cell? ⟨gb471, 0, none⟩ = some (.slice A0_0 l0_0.length c0_0) := (blk_cell BK471.out 0).trans rfl; have hcz25_1 : w23.cell? ⟨gb471, 1, none⟩ = some (.slice A0_1 l0_1.length c0_1) := (blk_cell BK471.out 1).trans rfl; have hfz25_0 := blk_frozen BK471.out 0; have hfz25_1 := blk_frozen BK471.out 1) | ((with_reducible refine gate_callee (f := 53) rfl ?_); refine zg (some 8) #[.agg #[.slice A0_0 l0_0.length c0_0, .slice A0_1 l0_1.length c0_1]] Try.func53 ?_; (with_reducible refine (impl_StateOk.calls k _ _ l0_0 _ _ l0_1 false _ (zk (Kd.C_below HR0_0.out HB.out)) HC0_0.out (zk (Kd.C_below HR0_1.out HB.out)) HC0_1.out A2.out).mono ?_); rintro e w26 ⟨rfl, hb⟩; refine ⟨_, rfl, ?_⟩; replace HO474 := zm (Kd.R_below (zr HO474) hb); replace BK471 := zm (blk_below (zb BK471) hb); replace HB := zm (below_step zB hb); clear hb))
  go_ret
  exact ⟨_, zE, zr HO474, zB⟩

/-! ### impl_Lookup: function 102 -/
def impl_Lookup.f (k : Nat) (l0_0 : List (S68)) (l0_1 : List (S72)) (a1 : Int) : Option (Int × Int × Int × Int × ByteArray × Bool) := (impl_View.f k l0_0 l0_1).bind fun t483 => ((impl_EntryOf.f k t483 ([] : List (S72)) a1).bind fun bt486 => (some (bt486.1, bt486.2.1, bt486.2.2.1, bt486.2.2.2.1, bt486.2.2.2.2.1, bt486.2.2.2.2.2)))
theorem impl_Lookup.mono : ∀ a0 a1 a2 k, LeO (impl_Lookup.f k a0 a1 a2) (impl_Lookup.f (k + 1) a0 a1 a2) := by
 intro a0 a1 a2 k
 unfold impl_Lookup.f
 repeat' first
   | (with_reducible exact impl_EntryOf.mono _ _ _ _)
   | (with_reducible exact impl_View.mono _ _ _)
   | (with_reducible exact LeO.refl _)
   | (with_reducible exact LeO.none _)
   | (with_reducible refine LeO.ite ?_ ?_)
   | (with_reducible refine LeO.bind ?_ (fun _ => ?_))
   | exact impl_EntryOf.mono _ _ _ _
   | exact impl_View.mono _ _ _
   | exact LeO.none _
   | refine LeO.ite ?_ ?_
   | refine LeO.bind ?_ (fun _ => ?_)
set_option maxHeartbeats 8000000 in
set_option maxRecDepth 100000 in
theorem impl_Lookup.calls (k : Nat) (A0_0 : Option Addr) (c0_0 : Nat) (l0_0 : List (S68)) (A0_1 : Option Addr) (c0_1 : Nat) (l0_1 : List (S72)) (a1 : Int) (r1 : Int) (r2 : Int) (r3 : Int) (r4 : Int) (r5 : ByteArray) (r6 : Bool) (w : World) (hr0_0 : Kd.C k68 w A0_0 l0_0.length l0_0) (hc0_0 : l0_0.length ≤ c0_0) (hr0_1 : Kd.C k72 w A0_1 l0_1.length l0_1) (hc0_1 : l0_1.length ≤ c0_1) (h : impl_Lookup.f k l0_0 l0_1 a1 = some (r1, r2, r3, r4, r5, r6)) :
  Calls Try.prog 102 #[.agg #[.slice A0_0 l0_0.length c0_0, .slice A0_1 l0_1.length c0_1], .int .i64 a1] w fun e w' => e = .returned (.tuple #[.agg #[.int .i64 r1, .int .i64 r2, .int .i64 r3, .int .i64 r4, .string r5], .bool r6]) ∧ Below w.heap.size w w' := by
 have hu32 := Try.underlying32
 have hu66 := Try.underlying66
 have HR0_0 := zm hr0_0
 have HC0_0 := zm hc0_0
 clear hr0_0 hc0_0
 have HR0_1 := zm hr0_1
 have HC0_1 := zm hc0_1
 clear hr0_1 hc0_1
 have HB := zm (Below.refl w.heap.size w)
 have H : ((impl_View.f k l0_0 l0_1).bind fun t483 => ((impl_EntryOf.f k t483 ([] : List (S72)) a1).bind fun bt486 => (some (bt486.1, bt486.2.1, bt486.2.2.1, bt486.2.2.2.1, bt486.2.2.2.2.1, bt486.2.2.2.2.2)))) = some (r1, r2, r3, r4, r5, r6) := h
 clear h
 replace H := Option.bind_eq_some_iff.mp H
 obtain ⟨t483, A30, H⟩ := H
 replace H : ((impl_EntryOf.f k t483 ([] : List (S72)) a1).bind fun bt486 => (some (bt486.1, bt486.2.1, bt486.2.2.1, bt486.2.2.2.1, bt486.2.2.2.2.1, bt486.2.2.2.2.2))) = some (r1, r2, r3, r4, r5, r6) := H
 have A3 := zm A30
 clear A30
 replace H := Option.bind_eq_some_iff.mp H
 obtain ⟨⟨t486, t487, t488, t489, t490, t491⟩, A40, H⟩ := H
 replace H : (some (t486, t487, t488, t489, t490, t491)) = some (r1, r2, r3, r4, r5, r6) := H
 have A4 := zm A40
 clear A40
 simp only [Option.some.injEq, Prod.mk.injEq] at H
 obtain ⟨rfl, rfl, rfl, rfl, rfl, rfl⟩ := H
 go_enter Try.func102, Try.ntmps102
 go_wp2_with (first | ((with_reducible refine gate_dst (N := 2) rfl ?_); refine zbox 2 #[.slice A0_0 l0_0.length c0_0, .slice A0_1 l0_1.length c0_1] 32 ?_; intro gb481 hg w5 hbox hb; have BK481 := zm (hbox); have GW481 := zge w hg zB; have GE481 := zge w hg zB; replace HB := zm (below_step zB hb); clear hb hbox hg) | ((with_reducible refine gate_dst (N := 4) rfl ?_); refine zbox 4 #[.int .i64 0, .int .i64 0, .int .i64 0, .int .i64 0, .string (⟨#[]⟩ : ByteArray)] 66 ?_; intro gb482 hg w6 hbox hb; have BK482 := zm (hbox); have GW482 := zge w hg zB; have GE482 := zge w hg zB; replace HB := zm (below_step zB hb); have NB481_482 := zlt hg (zb BK481); have NB482_481 := zgt hg (zb BK481); replace BK481 := zm (blk_below (zb BK481) hb); clear hb hbox hg; have hnb7 := NB481_482.out; have hnc7 := NB482_481.out; have hcz8_0 : w6.cell? ⟨gb481, 0, none⟩ = some (.slice A0_0 l0_0.length c0_0) := (blk_cell BK481.out 0).trans rfl; have hcz8_1 : w6.cell? ⟨gb481, 1, none⟩ = some (.slice A0_1 l0_1.length c0_1) := (blk_cell BK481.out 1).trans rfl; have hfz8_0 := blk_frozen BK481.out 0; have hfz8_1 := blk_frozen BK481.out 1) | ((with_reducible refine gate_callee (f := 112) rfl ?_); refine zg (some 7) #[.agg #[.slice A0_0 l0_0.length c0_0, .slice A0_1 l0_1.length c0_1]] Try.func112 ?_; (with_reducible refine (impl_View.calls k _ _ l0_0 _ _ l0_1 t483 _ (zk (Kd.C_below HR0_0.out HB.out)) HC0_0.out (zk (Kd.C_below HR0_1.out HB.out)) HC0_1.out A3.out).mono ?_); rintro e w9 ⟨v484, rfl, ho0, hb⟩; refine ⟨_, rfl, ?_⟩; have HO485 := zm (Kd.R_lower ho0 (below_size zB)); replace BK481 := zm (blk_below (zb BK481) hb); replace BK482 := zm (blk_below (zb BK482) hb); replace HB := zm (below_step zB hb); clear hb ho0; obtain ⟨Ao10, co10, eo10⟩ := Kd.R_slice HO485.out; subst eo10) | ((with_reducible refine gate_callee (f := 78) rfl ?_); refine zg (some 10) #[.agg #[.slice Ao10 t483.length co10, .slice none 0 0], .int .i64 a1] Try.func78 ?_; (refine (impl_EntryOf.calls k _ _ t483 _ _ ([] : List (S72)) a1 t486 t487 t488 t489 t490 t491 _ ?side1 ?side2 ?side3 ?side4 A4.out).mono ?_); (case side1 => repeat (first | exact (Kd.R_reads' HO485.out).2.2 | (with_reducible refine Kd.C_alloc ?_ _) | (with_reducible refine Kd.C_drewN ?_ _) | (with_reducible refine Kd.C_drew ?_))); (case side2 => exact (Kd.R_reads' HO485.out).2.1); (case side3 => exact Kd.C_nil _ _); (case side4 => exact Nat.le_refl _); rintro e w11 ⟨rfl, hb⟩; refine ⟨_, rfl, ?_⟩; replace HO485 := zm (Kd.R_below (zr HO485) hb); replace BK481 := zm (blk_below (zb BK481) hb); replace BK482 := zm (blk_below (zb BK482) hb); replace HB := zm (below_step zB hb); clear hb; have hcz12_0 : w11.cell? ⟨gb482, 0, none⟩ = some (.int .i64 0) := (blk_cell BK482.out 0).trans rfl; have hcz12_1 : w11.cell? ⟨gb482, 1, none⟩ = some (.int .i64 0) := (blk_cell BK482.out 1).trans rfl; have hcz12_2 : w11.cell? ⟨gb482, 2, none⟩ = some (.int .i64 0) := (blk_cell BK482.out 2).trans rfl; have hcz12_3 : w11.cell? ⟨gb482, 3, none⟩ = some (.int .i64 0) := (blk_cell BK482.out 3).trans rfl; have hcz12_4 : w11.cell? ⟨gb482, 4, none⟩ = some (.string (⟨#[]⟩ : ByteArray)) := (blk_cell BK482.out 4).trans rfl; have hfz12_0 := blk_frozen BK482.out 0; have hfz12_1 := blk_frozen BK482.out 1; have hfz12_2 := blk_frozen BK482.out 2; have hfz12_3 := blk_frozen BK482.out 3; have hfz12_4 := blk_frozen BK482.out 4))
 refine bodyPost_ret (results_ct rfl _ _ gb482 66 #[.int .i64 t486, .int .i64 t487, .int .i64 t488, .int .i64 t489, .string t490] (0, 0) _ rfl (zput (zput (zput (zput (zput (zb BK482) 0) 1) 2) 3) 4) Try.underlying66 rfl (by kernel_rfl)) rfl ?_
 exact ⟨zE, zB⟩

/-! ### impl_present: function 68 -/
def impl_present.j0 : Nat → Int → Bool → List (S68) → List (S72) → Option (Int × Int × Int × Int × ByteArray × Int)
 | 0, _, _, _, _ => none
 | k + 1, x1, x15, x493000, x493001 => if x15 = true then (some (0, 0, 0, 0, (⟨#[]⟩ : ByteArray), 1)) else ((impl_Lookup.f k x493000 x493001 x1).bind fun bt496 => (if bt496.2.2.2.2.2 = true then (some (bt496.1, bt496.2.1, bt496.2.2.1, bt496.2.2.2.1, bt496.2.2.2.2.1, 0)) else (some (0, 0, 0, 0, (⟨#[]⟩ : ByteArray), 3))))
def impl_present.f (k : Nat) (l0_0 : List (S68)) (l0_1 : List (S72)) (a1 : Int) : Option (Int × Int × Int × Int × ByteArray × Int) := (impl_StateOk.f k l0_0 l0_1).bind fun t494 => (if t494 = true then ((impl_isNode.f a1).bind fun t495 => (impl_present.j0 k a1 (!t495) l0_0 l0_1)) else (impl_present.j0 k a1 true l0_0 l0_1))
theorem impl_present.mono_l : ∀ k, (∀ y0 y1 y2 y3, LeO (impl_present.j0 k y0 y1 y2 y3) (impl_present.j0 (k + 1) y0 y1 y2 y3))
 | 0 => fun _ _ _ _ r h => by simp [impl_present.j0] at h
 | k + 1 => by
  have ih0 := impl_present.mono_l k
  ·intro y0 y1 y2 y3
   unfold impl_present.j0
   repeat' first
   | (with_reducible exact ih0 _ _ _ _)
   | (with_reducible exact impl_Lookup.mono _ _ _ _)
   | (with_reducible exact impl_StateOk.mono _ _ _)
   | (with_reducible exact LeO.refl _)
   | (with_reducible exact LeO.none _)
   | (with_reducible refine LeO.ite ?_ ?_)
   | (with_reducible refine LeO.bind ?_ (fun _ => ?_))
   | exact ih0 _ _ _ _
   | exact impl_Lookup.mono _ _ _ _
   | exact impl_StateOk.mono _ _ _
   | exact LeO.none _
   | refine LeO.ite ?_ ?_
   | refine LeO.bind ?_ (fun _ => ?_)
theorem impl_present.mono : ∀ a0 a1 a2 k, LeO (impl_present.f k a0 a1 a2) (impl_present.f (k + 1) a0 a1 a2) := by
 intro a0 a1 a2 k
 have ih0 := impl_present.mono_l k
 unfold impl_present.f
 repeat' first
   | (with_reducible exact ih0 _ _ _ _)
   | (with_reducible exact impl_Lookup.mono _ _ _ _)
   | (with_reducible exact impl_StateOk.mono _ _ _)
   | (with_reducible exact LeO.refl _)
   | (with_reducible exact LeO.none _)
   | (with_reducible refine LeO.ite ?_ ?_)
   | (with_reducible refine LeO.bind ?_ (fun _ => ?_))
   | exact ih0 _ _ _ _
   | exact impl_Lookup.mono _ _ _ _
   | exact impl_StateOk.mono _ _ _
   | exact LeO.none _
   | refine LeO.ite ?_ ?_
   | refine LeO.bind ?_ (fun _ => ?_)
set_option maxHeartbeats 8000000 in
set_option maxRecDepth 100000 in
theorem impl_present.calls (k : Nat) (A0_0 : Option Addr) (c0_0 : Nat) (l0_0 : List (S68)) (A0_1 : Option Addr) (c0_1 : Nat) (l0_1 : List (S72)) (a1 : Int) (r1 : Int) (r2 : Int) (r3 : Int) (r4 : Int) (r5 : ByteArray) (r6 : Int) (w : World) (hr0_0 : Kd.C k68 w A0_0 l0_0.length l0_0) (hc0_0 : l0_0.length ≤ c0_0) (hr0_1 : Kd.C k72 w A0_1 l0_1.length l0_1) (hc0_1 : l0_1.length ≤ c0_1) (h : impl_present.f k l0_0 l0_1 a1 = some (r1, r2, r3, r4, r5, r6)) :
  Calls Try.prog 68 #[.agg #[.slice A0_0 l0_0.length c0_0, .slice A0_1 l0_1.length c0_1], .int .i64 a1] w fun e w' => e = .returned (.tuple #[.agg #[.int .i64 r1, .int .i64 r2, .int .i64 r3, .int .i64 r4, .string r5], .int .i64 r6]) ∧ Below w.heap.size w w' := by
 have hu32 := Try.underlying32
 have hu66 := Try.underlying66
 have HR0_0 := zm hr0_0
 have HC0_0 := zm hc0_0
 clear hr0_0 hc0_0
 have HR0_1 := zm hr0_1
 have HC0_1 := zm hc0_1
 clear hr0_1 hc0_1
 have HB := zm (Below.refl w.heap.size w)
 have H : ((impl_StateOk.f k l0_0 l0_1).bind fun t494 => (if t494 = true then ((impl_isNode.f a1).bind fun t495 => (impl_present.j0 k a1 (!t495) l0_0 l0_1)) else (impl_present.j0 k a1 true l0_0 l0_1))) = some (r1, r2, r3, r4, r5, r6) := h
 clear h
 have HC3 := zm H
 clear H
 go_enter Try.func68, Try.ntmps68
 go_upto_region 1 with (first | ((with_reducible refine gate_dst (N := 2) rfl ?_); refine zbox 2 #[.slice A0_0 l0_0.length c0_0, .slice A0_1 l0_1.length c0_1] 32 ?_; intro gb492 hg w4 hbox hb; have BK492 := zm (hbox); have GW492 := zge w hg zB; have GE492 := zge w hg zB; replace HB := zm (below_step zB hb); clear hb hbox hg) | ((with_reducible refine gate_dst (N := 4) rfl ?_); refine zbox 4 #[.int .i64 0, .int .i64 0, .int .i64 0, .int .i64 0, .string (⟨#[]⟩ : ByteArray)] 66 ?_; intro gb493 hg w5 hbox hb; have BK493 := zm (hbox); have GW493 := zge w hg zB; have GE493 := zge w hg zB; replace HB := zm (below_step zB hb); have NB492_493 := zlt hg (zb BK492); have NB493_492 := zgt hg (zb BK492); replace BK492 := zm (blk_below (zb BK492) hb); clear hb hbox hg))
 (try simp only [Act.put, List.setIfInBounds_toArray, List.set_cons_zero, List.set_cons_succ])
 go_cut [15] (fun v15 wc => ∃ (kq : Nat) (x15_2 : Bool), v15 = .bool x15_2 ∧ Aside0 (impl_present.j0 kq a1 x15_2 l0_0 l0_1 = some (r1, r2, r3, r4, r5, r6)) ∧ Aside0 (kq ≤ k) ∧ Aside0 (wc.heap[gb492]? = some (.cells #[(.slice A0_0 l0_0.length c0_0), (.slice A0_1 l0_1.length c0_1)] 32 (0, 0))) ∧ Aside0 (wc.heap[gb493]? = some (.cells #[.int .i64 0, .int .i64 0, .int .i64 0, .int .i64 0, .string (⟨#[]⟩ : ByteArray)] 66 (0, 0))) ∧ Aside0 (Below w.heap.size w wc))
 case first =>
  have H := HC3.out
  clear HC3
  replace H := Option.bind_eq_some_iff.mp H
  obtain ⟨t494, A60, H⟩ := H
  replace H : (if t494 = true then ((impl_isNode.f a1).bind fun t495 => (impl_present.j0 k a1 (!t495) l0_0 l0_1)) else (impl_present.j0 k a1 true l0_0 l0_1)) = some (r1, r2, r3, r4, r5, r6) := H
  have A6 := zm A60
  clear A60
  by_cases c7 : t494 = true
  ·subst c7
   have H1 : ((impl_isNode.f a1).bind fun t495 => (impl_present.j0 k a1 (!t495) l0_0 l0_1)) = some (r1, r2, r3, r4, r5, r6) := by rw [if_pos rfl] at H; exact H
   clear H
   have H := H1
   clear H1
   replace H := Option.bind_eq_some_iff.mp H
   obtain ⟨t495, A80, H⟩ := H
   replace H : (impl_present.j0 k a1 (!t495) l0_0 l0_1) = some (r1, r2, r3, r4, r5, r6) := H
   have A8 := zm A80
   clear A80
   have H' := zm H
   clear H
   have hnb9 := NB492_493.out
   have hnc9 := NB493_492.out
   have hcz10_0 : w5.cell? ⟨gb492, 0, none⟩ = some (.slice A0_0 l0_0.length c0_0) := (blk_cell BK492.out 0).trans rfl
   have hcz10_1 : w5.cell? ⟨gb492, 1, none⟩ = some (.slice A0_1 l0_1.length c0_1) := (blk_cell BK492.out 1).trans rfl
   have hfz10_0 := blk_frozen BK492.out 0
   have hfz10_1 := blk_frozen BK492.out 1
   go_wp2_with (first | ((with_reducible refine gate_callee (f := 53) rfl ?_); refine zg (some 9) #[.agg #[.slice A0_0 l0_0.length c0_0, .slice A0_1 l0_1.length c0_1]] Try.func53 ?_; (with_reducible refine (impl_StateOk.calls k _ _ l0_0 _ _ l0_1 true _ (zk (Kd.C_below HR0_0.out HB.out)) HC0_0.out (zk (Kd.C_below HR0_1.out HB.out)) HC0_1.out A6.out).mono ?_); rintro e w11 ⟨rfl, hb⟩; refine ⟨_, rfl, ?_⟩; replace BK492 := zm (blk_below (zb BK492) hb); replace BK493 := zm (blk_below (zb BK493) hb); replace HB := zm (below_step zB hb); clear hb) | (go_at_call 94; (with_reducible refine (impl_isNode.calls a1 t495 _ A8.out).mono ?_); rintro e w' ⟨rfl, ⟨nd, rfl⟩⟩))
   go_meet
   case rel => exact ⟨_, (!t495), zF, H', ⟨by first | omega | exact Nat.le_refl _⟩, ⟨zb BK492⟩, ⟨zb BK493⟩, ⟨zB⟩⟩
  ·replace c7 := Bool.eq_false_iff.mpr c7
   subst c7
   have H1 : (impl_present.j0 k a1 true l0_0 l0_1) = some (r1, r2, r3, r4, r5, r6) := by rw [if_neg (show ¬ (false = true) by decide)] at H; exact H
   clear H
   have H := H1
   clear H1
   have H' := zm H
   clear H
   have hnb12 := NB492_493.out
   have hnc12 := NB493_492.out
   have hcz13_0 : w5.cell? ⟨gb492, 0, none⟩ = some (.slice A0_0 l0_0.length c0_0) := (blk_cell BK492.out 0).trans rfl
   have hcz13_1 : w5.cell? ⟨gb492, 1, none⟩ = some (.slice A0_1 l0_1.length c0_1) := (blk_cell BK492.out 1).trans rfl
   have hfz13_0 := blk_frozen BK492.out 0
   have hfz13_1 := blk_frozen BK492.out 1
   go_wp2_with (first | ((with_reducible refine gate_callee (f := 53) rfl ?_); refine zg (some 9) #[.agg #[.slice A0_0 l0_0.length c0_0, .slice A0_1 l0_1.length c0_1]] Try.func53 ?_; (with_reducible refine (impl_StateOk.calls k _ _ l0_0 _ _ l0_1 false _ (zk (Kd.C_below HR0_0.out HB.out)) HC0_0.out (zk (Kd.C_below HR0_1.out HB.out)) HC0_1.out A6.out).mono ?_); rintro e w14 ⟨rfl, hb⟩; refine ⟨_, rfl, ?_⟩; replace BK492 := zm (blk_below (zb BK492) hb); replace BK493 := zm (blk_below (zb BK493) hb); replace HB := zm (below_step zB hb); clear hb))
   go_meet
   case rel => exact ⟨_, (true), zF, H', ⟨by first | omega | exact Nat.le_refl _⟩, ⟨zb BK492⟩, ⟨zb BK493⟩, ⟨zB⟩⟩
 case rest =>
  clear HC3
  try clear c1
  try clear p2
  try clear c5
  try clear c6
  try clear c7
  try clear c9
  try clear c12
  try clear hcz10_0
  try clear hcz10_1
  try clear hcz13_0
  try clear hcz13_1
  try clear hfz10_0
  try clear hfz10_1
  try clear hfz13_0
  try clear hfz13_1
  obtain ⟨kq, x15_2, rfl, HA, HJ2, BK492, BK493, HB⟩ := hcut
  cases kq with
  | zero => exact absurd HA.out (by simp [impl_present.j0])
  | succ kj2 =>
   have H := HA.out
   clear HA
   simp only [impl_present.j0] at H
   by_cases c15 : x15_2 = true
   ·subst c15
    have H1 : (some (0, 0, 0, 0, (⟨#[]⟩ : ByteArray), 1)) = some (r1, r2, r3, r4, r5, r6) := by rw [if_pos rfl] at H; exact H
    clear H
    have H := H1
    clear H1
    simp only [Option.some.injEq, Prod.mk.injEq] at H
    obtain ⟨rfl, rfl, rfl, rfl, rfl, rfl⟩ := H
    have hnb16 := NB493_492.out
    have hnc16 := NB492_493.out
    have hcz17_0 : wc.cell? ⟨gb493, 0, none⟩ = some (.int .i64 0) := (blk_cell BK493.out 0).trans rfl
    have hcz17_1 : wc.cell? ⟨gb493, 1, none⟩ = some (.int .i64 0) := (blk_cell BK493.out 1).trans rfl
    have hcz17_2 : wc.cell? ⟨gb493, 2, none⟩ = some (.int .i64 0) := (blk_cell BK493.out 2).trans rfl
    have hcz17_3 : wc.cell? ⟨gb493, 3, none⟩ = some (.int .i64 0) := (blk_cell BK493.out 3).trans rfl
    have hcz17_4 : wc.cell? ⟨gb493, 4, none⟩ = some (.string (⟨#[]⟩ : ByteArray)) := (blk_cell BK493.out 4).trans rfl
    have hfz17_0 := blk_frozen BK493.out 0
    have hfz17_1 := blk_frozen BK493.out 1
    have hfz17_2 := blk_frozen BK493.out 2
    have hfz17_3 := blk_frozen BK493.out 3
    have hfz17_4 := blk_frozen BK493.out 4
    go_wp2
    refine bodyPost_ret (results_ct rfl _ _ gb493 66 #[.int .i64 0, .int .i64 0, .int .i64 0, .int .i64 0, .string (⟨#[]⟩ : ByteArray)] (0, 0) _ rfl (zput (zput (zput (zput (zput (zb BK493) 0) 1) 2) 3) 4) Try.underlying66 rfl (by kernel_rfl)) rfl ?_
    exact ⟨zE, zB⟩
   ·replace c15 := Bool.eq_false_iff.mpr c15
    subst c15
    have H1 : ((impl_Lookup.f kj2 l0_0 l0_1 a1).bind fun bt496 => (if bt496.2.2.2.2.2 = true then (some (bt496.1, bt496.2.1, bt496.2.2.1, bt496.2.2.2.1, bt496.2.2.2.2.1, 0)) else (some (0, 0, 0, 0, (⟨#[]⟩ : ByteArray), 3)))) = some (r1, r2, r3, r4, r5, r6) := by rw [if_neg (show ¬ (false = true) by decide)] at H; exact H
    clear H
    have H := H1
    clear H1
    replace H := Option.bind_eq_some_iff.mp H
    obtain ⟨⟨t496, t497, t498, t499, t500, t501⟩, A180, H⟩ := H
    replace H : (if t501 = true then (some (t496, t497, t498, t499, t500, 0)) else (some (0, 0, 0, 0, (⟨#[]⟩ : ByteArray), 3))) = some (r1, r2, r3, r4, r5, r6) := H
    have A18 := zm A180
    clear A180
    by_cases c19 : t501 = true
    ·subst c19
     have H1 : (some (t496, t497, t498, t499, t500, 0)) = some (r1, r2, r3, r4, r5, r6) := by rw [if_pos rfl] at H; exact H
     clear H
     have H := H1
     clear H1
     simp only [Option.some.injEq, Prod.mk.injEq] at H
     obtain ⟨rfl, rfl, rfl, rfl, rfl, rfl⟩ := H
     have hnb20 := NB492_493.out
     have hnc20 := NB493_492.out
     have hcz21_0 : wc.cell? ⟨gb492, 0, none⟩ = some (.slice A0_0 l0_0.length c0_0) := (blk_cell BK492.out 0).trans rfl
     have hcz21_1 : wc.cell? ⟨gb492, 1, none⟩ = some (.slice A0_1 l0_1.length c0_1) := (blk_cell BK492.out 1).trans rfl
     have hfz21_0 := blk_frozen BK492.out 0
     have hfz21_1 := blk_frozen BK492.out 1
     go_wp2_with (first | ((with_reducible refine gate_callee (f := 102) rfl ?_); refine zg (some 20) #[.agg #[.slice A0_0 l0_0.length c0_0, .slice A0_1 l0_1.length c0_1], .int .i64 a1] Try.func102 ?_; (with_reducible refine (impl_Lookup.calls kj2 _ _ l0_0 _ _ l0_1 a1 t496 t497 t498 t499 t500 true _ (zk (Kd.C_below HR0_0.out HB.out)) HC0_0.out (zk (Kd.C_below HR0_1.out HB.out)) HC0_1.out A18.out).mono ?_); rintro e w22 ⟨rfl, hb⟩; refine ⟨_, rfl, ?_⟩; replace BK492 := zm (blk_below (zb BK492) hb); replace BK493 := zm (blk_below (zb BK493) hb); replace HB := zm (below_step zB hb); clear hb) | ((with_reducible refine gate_dst (N := 6) rfl ?_); refine zbox 6 #[.int .i64 0, .int .i64 0, .int .i64 0, .int .i64 0, .string (⟨#[]⟩ : ByteArray)] 66 ?_; intro gb502 hg w23 hbox hb; have BK502 := zm (hbox); have GW502 := zge w hg zB; have GE502 := zge w hg zB; replace HB := zm (below_step zB hb); have NB492_502 := zlt hg (zb BK492); have NB502_492 := zgt hg (zb BK492); replace BK492 := zm (blk_below (zb BK492) hb); have NB493_502 := zlt hg (zb BK493); have NB502_493 := zgt hg (zb BK493); replace BK493 := zm (blk_below (zb BK493) hb); clear hb hbox hg; have hnb24 := NB502_492.out; have hnc24 := NB492_502.out; have hnb25 := NB502_493.out; have hnc25 := NB493_502.out; have hcz26_0 : w23.cell? ⟨gb502, 0, none⟩ = some (.int .i64 0) := (blk_cell BK502.out 0).trans rfl; have hcz26_1 : w23.cell? ⟨gb502, 1, none⟩ = some (.int .i64 0) := (blk_cell BK502.out 1).trans rfl; have hcz26_2 : w23.cell? ⟨gb502, 2, none⟩ = some (.int .i64 0) := (blk_cell BK502.out 2).trans rfl; have hcz26_3 : w23.cell? ⟨gb502, 3, none⟩ = some (.int .i64 0) := (blk_cell BK502.out 3).trans rfl; have hcz26_4 : w23.cell? ⟨gb502, 4, none⟩ = some (.string (⟨#[]⟩ : ByteArray)) := (blk_cell BK502.out 4).trans rfl; have hfz26_0 := blk_frozen BK502.out 0; have hfz26_1 := blk_frozen BK502.out 1; have hfz26_2 := blk_frozen BK502.out 2; have hfz26_3 := blk_frozen BK502.out 3; have hfz26_4 := blk_frozen BK502.out 4; have hcz27_0 : w23.cell? ⟨gb493, 0, none⟩ = some (.int .i64 0) := (blk_cell BK493.out 0).trans rfl; have hcz27_1 : w23.cell? ⟨gb493, 1, none⟩ = some (.int .i64 0) := (blk_cell BK493.out 1).trans rfl; have hcz27_2 : w23.cell? ⟨gb493, 2, none⟩ = some (.int .i64 0) := (blk_cell BK493.out 2).trans rfl; have hcz27_3 : w23.cell? ⟨gb493, 3, none⟩ = some (.int .i64 0) := (blk_cell BK493.out 3).trans rfl; have hcz27_4 : w23.cell? ⟨gb493, 4, none⟩ = some (.string (⟨#[]⟩ : ByteArray)) := (blk_cell BK493.out 4).trans rfl; have hfz27_0 := blk_frozen BK493.out 0; have hfz27_1 := blk_frozen BK493.out 1; have hfz27_2 := blk_frozen BK493.out 2; have hfz27_3 := blk_frozen BK493.out 3; have hfz27_4 := blk_frozen BK493.out 4))
     refine bodyPost_ret (results_ct rfl _ _ gb493 66 #[.int .i64 t496, .int .i64 t497, .int .i64 t498, .int .i64 t499, .string t500] (0, 0) _ rfl (zput (zput (zput (zput (zput (zfar (zfar (zfar (zfar (zfar (zb BK493) NB493_502) NB493_502) NB493_502) NB493_502) NB493_502) 0) 1) 2) 3) 4) Try.underlying66 rfl (by kernel_rfl)) rfl ?_
     exact ⟨zE, zB⟩
    ·replace c19 := Bool.eq_false_iff.mpr c19
     subst c19
     have H1 : (some (0, 0, 0, 0, (⟨#[]⟩ : ByteArray), 3)) = some (r1, r2, r3, r4, r5, r6) := by rw [if_neg (show ¬ (false = true) by decide)] at H; exact H
     clear H
     have H := H1
     clear H1
     simp only [Option.some.injEq, Prod.mk.injEq] at H
     obtain ⟨rfl, rfl, rfl, rfl, rfl, rfl⟩ := H
     have hnb28 := NB492_493.out
     have hnc28 := NB493_492.out
     have hcz29_0 : wc.cell? ⟨gb492, 0, none⟩ = some (.slice A0_0 l0_0.length c0_0) := (blk_cell BK492.out 0).trans rfl
     have hcz29_1 : wc.cell? ⟨gb492, 1, none⟩ = some (.slice A0_1 l0_1.length c0_1) := (blk_cell BK492.out 1).trans rfl
     have hfz29_0 := blk_frozen BK492.out 0
     have hfz29_1 := blk_frozen BK492.out 1
     go_wp2_with (first | ((with_reducible refine gate_callee (f := 102) rfl ?_); refine zg (some 20) #[.agg #[.slice A0_0 l0_0.length c0_0, .slice A0_1 l0_1.length c0_1], .int .i64 a1] Try.func102 ?_; (with_reducible refine (impl_Lookup.calls kj2 _ _ l0_0 _ _ l0_1 a1 t496 t497 t498 t499 t500 false _ (zk (Kd.C_below HR0_0.out HB.out)) HC0_0.out (zk (Kd.C_below HR0_1.out HB.out)) HC0_1.out A18.out).mono ?_); rintro e w30 ⟨rfl, hb⟩; refine ⟨_, rfl, ?_⟩; replace BK492 := zm (blk_below (zb BK492) hb); replace BK493 := zm (blk_below (zb BK493) hb); replace HB := zm (below_step zB hb); clear hb) | ((with_reducible refine gate_dst (N := 6) rfl ?_); refine zbox 6 #[.int .i64 0, .int .i64 0, .int .i64 0, .int .i64 0, .string (⟨#[]⟩ : ByteArray)] 66 ?_; intro gb502 hg w31 hbox hb; have BK502 := zm (hbox); have GW502 := zge w hg zB; have GE502 := zge w hg zB; replace HB := zm (below_step zB hb); have NB492_502 := zlt hg (zb BK492); have NB502_492 := zgt hg (zb BK492); replace BK492 := zm (blk_below (zb BK492) hb); have NB493_502 := zlt hg (zb BK493); have NB502_493 := zgt hg (zb BK493); replace BK493 := zm (blk_below (zb BK493) hb); clear hb hbox hg; have hnb32 := NB502_492.out; have hnc32 := NB492_502.out; have hnb33 := NB502_493.out; have hnc33 := NB493_502.out; have hcz34_0 : w31.cell? ⟨gb502, 0, none⟩ = some (.int .i64 0) := (blk_cell BK502.out 0).trans rfl; have hcz34_1 : w31.cell? ⟨gb502, 1, none⟩ = some (.int .i64 0) := (blk_cell BK502.out 1).trans rfl; have hcz34_2 : w31.cell? ⟨gb502, 2, none⟩ = some (.int .i64 0) := (blk_cell BK502.out 2).trans rfl; have hcz34_3 : w31.cell? ⟨gb502, 3, none⟩ = some (.int .i64 0) := (blk_cell BK502.out 3).trans rfl; have hcz34_4 : w31.cell? ⟨gb502, 4, none⟩ = some (.string (⟨#[]⟩ : ByteArray)) := (blk_cell BK502.out 4).trans rfl; have hfz34_0 := blk_frozen BK502.out 0; have hfz34_1 := blk_frozen BK502.out 1; have hfz34_2 := blk_frozen BK502.out 2; have hfz34_3 := blk_frozen BK502.out 3; have hfz34_4 := blk_frozen BK502.out 4; have hcz35_0 : w31.cell? ⟨gb493, 0, none⟩ = some (.int .i64 0) := (blk_cell BK493.out 0).trans rfl; have hcz35_1 : w31.cell? ⟨gb493, 1, none⟩ = some (.int .i64 0) := (blk_cell BK493.out 1).trans rfl; have hcz35_2 : w31.cell? ⟨gb493, 2, none⟩ = some (.int .i64 0) := (blk_cell BK493.out 2).trans rfl; have hcz35_3 : w31.cell? ⟨gb493, 3, none⟩ = some (.int .i64 0) := (blk_cell BK493.out 3).trans rfl; have hcz35_4 : w31.cell? ⟨gb493, 4, none⟩ = some (.string (⟨#[]⟩ : ByteArray)) := (blk_cell BK493.out 4).trans rfl; have hfz35_0 := blk_frozen BK493.out 0; have hfz35_1 := blk_frozen BK493.out 1; have hfz35_2 := blk_frozen BK493.out 2; have hfz35_3 := blk_frozen BK493.out 3; have hfz35_4 := blk_frozen BK493.out 4))
     refine bodyPost_ret (results_ct rfl _ _ gb493 66 #[.int .i64 0, .int .i64 0, .int .i64 0, .int .i64 0, .string (⟨#[]⟩ : ByteArray)] (0, 0) _ rfl (zput (zput (zput (zput (zput (zfar (zfar (zfar (zfar (zfar (zb BK493) NB493_502) NB493_502) NB493_502) NB493_502) NB493_502) 0) 1) 2) 3) 4) Try.underlying66 rfl (by kernel_rfl)) rfl ?_
     exact ⟨zE, zB⟩

end Go.Proofs.Ytgapdegniepjiaa.P
