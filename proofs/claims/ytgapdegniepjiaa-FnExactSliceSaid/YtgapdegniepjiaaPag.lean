-- by a program of this session, for this seat
import Derived.Test.YtgapdegniepjiaaZ
import Derived.Test.YtgapdegniepjiaaP0
import Derived.Test.YtgapdegniepjiaaPaf
namespace Go.Proofs.Ytgapdegniepjiaa.P
open Go.RowKit Go.Proofs.YtgapdegniepjiaaW.PrintWords Go.Proofs.YtgapdegniepjiaaW.PrintLast Go.Proofs.YtgapdegniepjiaaW.PrintMore Go.Proofs.Ytgapdegniepjiaa.Z
attribute [local go_sem] max2_int min2_int max_two min_two max_three min_three max_four min_four   -- for this text's walks alone
set_option linter.unusedVariables false
set_option linter.unusedSimpArgs false

/-! ### spec_SayGone: function 24 -/
def spec_SayGone.f (k : Nat) (l0_0 : List (S68)) (l0_1 : List (S72)) (a1 : Int) : Option ((List (S68)) × (List (S72)) × Int) := (spec_l5Up.f k l0_0 l0_1 a1).bind fun bt263 => (if bt263.2.2.2.2.2 = 0 then ((spec_l5One.f k a1 bt263.1 1 bt263.2.2.1 bt263.2.2.2.1 bt263.2.2.2.2.1).bind fun bt270 => (some (bt270.1, bt270.2.1, bt270.2.2))) else (some (([] : List (S68)), ([] : List (S72)), bt263.2.2.2.2.2)))
theorem spec_SayGone.mono : ∀ a0 a1 a2 k, LeO (spec_SayGone.f k a0 a1 a2) (spec_SayGone.f (k + 1) a0 a1 a2) := by
 intro a0 a1 a2 k
 unfold spec_SayGone.f
 repeat' first
   | (with_reducible exact spec_l5One.mono _ _ _ _ _ _ _)
   | (with_reducible exact spec_l5Up.mono _ _ _ _)
   | (with_reducible exact LeO.refl _)
   | (with_reducible exact LeO.none _)
   | (with_reducible refine LeO.ite ?_ ?_)
   | (with_reducible refine LeO.bind ?_ (fun _ => ?_))
   | exact spec_l5One.mono _ _ _ _ _ _ _
   | exact spec_l5Up.mono _ _ _ _
   | exact LeO.none _
   | refine LeO.ite ?_ ?_
   | refine LeO.bind ?_ (fun _ => ?_)
set_option maxHeartbeats 8000000 in
set_option maxRecDepth 100000 in
theorem spec_SayGone.calls (k : Nat) (A0_0 : Option Addr) (c0_0 : Nat) (l0_0 : List (S68)) (A0_1 : Option Addr) (c0_1 : Nat) (l0_1 : List (S72)) (a1 : Int) (r1 : List (S68)) (r2 : List (S72)) (r3 : Int) (w : World) (hr0_0 : Kd.C k68 w A0_0 l0_0.length l0_0) (hc0_0 : l0_0.length ≤ c0_0) (hr0_1 : Kd.C k72 w A0_1 l0_1.length l0_1) (hc0_1 : l0_1.length ≤ c0_1) (h : spec_SayGone.f k l0_0 l0_1 a1 = some (r1, r2, r3)) :
  Calls Try.prog 24 #[.agg #[.slice A0_0 l0_0.length c0_0, .slice A0_1 l0_1.length c0_1], .int .i64 a1] w fun e w' => ∃ v0_ v1_ : Value, e = .returned (.tuple #[.agg #[v0_, v1_], .int .i64 r3]) ∧ Kd.R k68 68 w' w.heap.size (fun _ => True) v0_ r1 ∧ Kd.R k72 72 w' w.heap.size (fun _ => True) v1_ r2 ∧ Below w.heap.size w w' := by
 have hu32 := Try.underlying32
 have hu66 := Try.underlying66
 have HR0_0 := zm hr0_0
 have HC0_0 := zm hc0_0
 clear hr0_0 hc0_0
 have HR0_1 := zm hr0_1
 have HC0_1 := zm hc0_1
 clear hr0_1 hc0_1
 have HB := zm (Below.refl w.heap.size w)
 have H : ((spec_l5Up.f k l0_0 l0_1 a1).bind fun bt263 => (if bt263.2.2.2.2.2 = 0 then ((spec_l5One.f k a1 bt263.1 1 bt263.2.2.1 bt263.2.2.2.1 bt263.2.2.2.2.1).bind fun bt270 => (some (bt270.1, bt270.2.1, bt270.2.2))) else (some (([] : List (S68)), ([] : List (S72)), bt263.2.2.2.2.2)))) = some (r1, r2, r3) := h
 clear h
 replace H := Option.bind_eq_some_iff.mp H
 obtain ⟨⟨t263, t264, t265, t266, t267, t268⟩, A30, H⟩ := H
 replace H : (if t268 = 0 then ((spec_l5One.f k a1 t263 1 t265 t266 t267).bind fun bt270 => (some (bt270.1, bt270.2.1, bt270.2.2))) else (some (([] : List (S68)), ([] : List (S72)), t268))) = some (r1, r2, r3) := H
 have A3 := zm A30
 clear A30
 by_cases c4 : t268 = 0
 ·rw [if_pos c4] at H
  have c4b0 : (t268 == 0) = true := beq_iff_eq.mpr c4
  have c4b1 : (t268 != 0) = false := bne_eq_false_iff_eq.mpr c4
  clear c4
  replace H := Option.bind_eq_some_iff.mp H
  obtain ⟨⟨t270, t273, t276⟩, A50, H⟩ := H
  replace H : (some (t270, t273, t276)) = some (r1, r2, r3) := H
  have A5 := zm A50
  clear A50
  simp only [Option.some.injEq, Prod.mk.injEq] at H
  obtain ⟨rfl, rfl, rfl⟩ := H
  go_enter Try.func24, Try.ntmps24
  go_wp2_with (first | ((with_reducible refine gate_dst (N := 2) rfl ?_); refine zbox 2 #[.slice A0_0 l0_0.length c0_0, .slice A0_1 l0_1.length c0_1] 32 ?_; intro gb261 hg w6 hbox hb; have BK261 := zm (hbox); have GW261 := zge w hg zB; have GE261 := zge w hg zB; replace HB := zm (below_step zB hb); clear hb hbox hg) | ((with_reducible refine gate_dst (N := 4) rfl ?_); refine zbox 4 #[.slice none 0 0, .slice none 0 0] 32 ?_; intro gb262 hg w7 hbox hb; have BK262 := zm (hbox); have GW262 := zge w hg zB; have GE262 := zge w hg zB; replace HB := zm (below_step zB hb); have NB261_262 := zlt hg (zb BK261); have NB262_261 := zgt hg (zb BK261); replace BK261 := zm (blk_below (zb BK261) hb); clear hb hbox hg; have hnb8 := NB261_262.out; have hnc8 := NB262_261.out; have hcz9_0 : w7.cell? ⟨gb261, 0, none⟩ = some (.slice A0_0 l0_0.length c0_0) := (blk_cell BK261.out 0).trans rfl; have hcz9_1 : w7.cell? ⟨gb261, 1, none⟩ = some (.slice A0_1 l0_1.length c0_1) := (blk_cell BK261.out 1).trans rfl; have hfz9_0 := blk_frozen BK261.out 0; have hfz9_1 := blk_frozen BK261.out 1) | ((with_reducible refine gate_callee (f := 66) rfl ?_); refine zg (some 11) #[.agg #[.slice A0_0 l0_0.length c0_0, .slice A0_1 l0_1.length c0_1], .int .i64 a1] Try.func66 ?_; (with_reducible refine (spec_l5Up.calls k _ _ l0_0 _ _ l0_1 a1 t263 t264 t265 t266 t267 t268 _ (zk (Kd.C_below HR0_0.out HB.out)) HC0_0.out (zk (Kd.C_below HR0_1.out HB.out)) HC0_1.out A3.out).mono ?_); rintro e w10 ⟨rfl, hb⟩; refine ⟨_, rfl, ?_⟩; replace BK261 := zm (blk_below (zb BK261) hb); replace BK262 := zm (blk_below (zb BK262) hb); replace HB := zm (below_step zB hb); clear hb) | ((with_reducible refine gate_dst (N := 6) rfl ?_); refine zbox 6 #[.int .i64 0, .int .i64 0, .int .i64 0, .int .i64 0, .string (⟨#[]⟩ : ByteArray)] 66 ?_; intro gb269 hg w11 hbox hb; have BK269 := zm (hbox); have GW269 := zge w hg zB; have GE269 := zge w hg zB; replace HB := zm (below_step zB hb); have NB261_269 := zlt hg (zb BK261); have NB269_261 := zgt hg (zb BK261); replace BK261 := zm (blk_below (zb BK261) hb); have NB262_269 := zlt hg (zb BK262); have NB269_262 := zgt hg (zb BK262); replace BK262 := zm (blk_below (zb BK262) hb); clear hb hbox hg; have hnb12 := NB269_261.out; have hnc12 := NB261_269.out; have hnb13 := NB269_262.out; have hnc13 := NB262_269.out; have hcz14_0 : w11.cell? ⟨gb269, 0, none⟩ = some (.int .i64 0) := (blk_cell BK269.out 0).trans rfl; have hcz14_1 : w11.cell? ⟨gb269, 1, none⟩ = some (.int .i64 0) := (blk_cell BK269.out 1).trans rfl; have hcz14_2 : w11.cell? ⟨gb269, 2, none⟩ = some (.int .i64 0) := (blk_cell BK269.out 2).trans rfl; have hcz14_3 : w11.cell? ⟨gb269, 3, none⟩ = some (.int .i64 0) := (blk_cell BK269.out 3).trans rfl; have hcz14_4 : w11.cell? ⟨gb269, 4, none⟩ = some (.string (⟨#[]⟩ : ByteArray)) := (blk_cell BK269.out 4).trans rfl; have hfz14_0 := blk_frozen BK269.out 0; have hfz14_1 := blk_frozen BK269.out 1; have hfz14_2 := blk_frozen BK269.out 2; have hfz14_3 := blk_frozen BK269.out 3; have hfz14_4 := blk_frozen BK269.out 4) | ((with_reducible refine gate_callee (f := 67) rfl ?_); refine zg (some 21) #[.int .i64 a1, .agg #[.int .i64 t263, .int .i64 1, .int .i64 t265, .int .i64 t266, .string t267]] Try.func67 ?_; (with_reducible refine (spec_l5One.calls k a1 t263 1 t265 t266 t267 t270 t273 t276 _ A5.out).mono ?_); rintro e w15 ⟨v271, v274, rfl, ho0, ho1, hb⟩; refine ⟨_, rfl, ?_⟩; have HO272 := zm (Kd.R_lower ho0 (below_size zB)); have HO275 := zm (Kd.R_lower ho1 (below_size zB)); replace BK261 := zm (blk_below (g := gb261) (o := .cells #[.slice A0_0 l0_0.length c0_0, .slice A0_1 l0_1.length c0_1] 32 (0, 0)) (zfar (zfar (zfar (zfar (zfar (zfar (zb BK261) NB261_269) NB261_269) NB261_269) NB261_269) NB261_269) NB261_269) hb); replace BK262 := zm (blk_below (g := gb262) (o := .cells #[.slice none 0 0, .slice none 0 0] 32 (0, 0)) (zfar (zfar (zfar (zfar (zfar (zfar (zb BK262) NB262_269) NB262_269) NB262_269) NB262_269) NB262_269) NB262_269) hb); replace BK269 := zm (blk_below (g := gb269) (o := .cells #[.int .i64 t263, .int .i64 1, .int .i64 t265, .int .i64 t266, .string t267] 66 (0, 0)) (zput (zput (zput (zput (zput (zput (zb BK269) 0) 1) 2) 3) 4) 1) hb); replace HB := zm (below_step zB hb); clear hb ho0 ho1; obtain ⟨Ao16, co16, eo16⟩ := Kd.R_slice HO272.out; subst eo16; have hcz17_0 : w15.cell? ⟨gb262, 0, none⟩ = some (.slice none 0 0) := (blk_cell BK262.out 0).trans rfl; have hcz17_1 : w15.cell? ⟨gb262, 1, none⟩ = some (.slice none 0 0) := (blk_cell BK262.out 1).trans rfl; have hfz17_0 := blk_frozen BK262.out 0; have hfz17_1 := blk_frozen BK262.out 1; obtain ⟨Ao18, co18, eo18⟩ := Kd.R_slice HO275.out; subst eo18))
  refine bodyPost_ret (results_ct rfl _ _ gb262 32 #[.slice Ao16 t270.length co16, .slice Ao18 t273.length co18] (0, 0) _ rfl (zput (zput (zb BK262) 0) 1) Try.underlying32 rfl (by kernel_rfl)) rfl ?_
  exact ⟨_, _, zE, zrs <| Kd.R_mono (zfr (zfr (Kd.R_types HO272.out BK262.out (by decide)))) (fun _ hk => trivial), zrs <| Kd.R_mono (zfr (zfr (Kd.R_types HO275.out BK262.out (by decide)))) (fun _ hk => trivial), zB⟩
 ·rw [if_neg c4] at H
  have c4b0 : (t268 == 0) = false := beq_eq_false_iff_ne.mpr c4
  have c4b1 : (t268 != 0) = true := bne_iff_ne.mpr c4
  simp only [Option.some.injEq, Prod.mk.injEq] at H
  obtain ⟨rfl, rfl, rfl⟩ := H
  go_enter Try.func24, Try.ntmps24
  go_wp2_with (first | ((with_reducible refine gate_dst (N := 2) rfl ?_); refine zbox 2 #[.slice A0_0 l0_0.length c0_0, .slice A0_1 l0_1.length c0_1] 32 ?_; intro gb261 hg w19 hbox hb; have BK261 := zm (hbox); have GW261 := zge w hg zB; have GE261 := zge w hg zB; replace HB := zm (below_step zB hb); clear hb hbox hg) | ((with_reducible refine gate_dst (N := 4) rfl ?_); refine zbox 4 #[.slice none 0 0, .slice none 0 0] 32 ?_; intro gb262 hg w20 hbox hb; have BK262 := zm (hbox); have GW262 := zge w hg zB; have GE262 := zge w hg zB; replace HB := zm (below_step zB hb); have NB261_262 := zlt hg (zb BK261); have NB262_261 := zgt hg (zb BK261); replace BK261 := zm (blk_below (zb BK261) hb); clear hb hbox hg; have hnb21 := NB261_262.out; have hnc21 := NB262_261.out; have hcz22_0 : w20.cell? ⟨gb261, 0, none⟩ = some (.slice A0_0 l0_0.length c0_0) := (blk_cell BK261.out 0).trans rfl; have hcz22_1 : w20.cell? ⟨gb261, 1, none⟩ = some (.slice A0_1 l0_1.length c0_1) := (blk_cell BK261.out 1).trans rfl; have hfz22_0 := blk_frozen BK261.out 0; have hfz22_1 := blk_frozen BK261.out 1) | ((with_reducible refine gate_callee (f := 66) rfl ?_); refine zg (some 11) #[.agg #[.slice A0_0 l0_0.length c0_0, .slice A0_1 l0_1.length c0_1], .int .i64 a1] Try.func66 ?_; (with_reducible refine (spec_l5Up.calls k _ _ l0_0 _ _ l0_1 a1 t263 t264 t265 t266 t267 t268 _ (zk (Kd.C_below HR0_0.out HB.out)) HC0_0.out (zk (Kd.C_below HR0_1.out HB.out)) HC0_1.out A3.out).mono ?_); rintro e w23 ⟨rfl, hb⟩; refine ⟨_, rfl, ?_⟩; replace BK261 := zm (blk_below (zb BK261) hb); replace BK262 := zm (blk_below (zb BK262) hb); replace HB := zm (below_step zB hb); clear hb) | ((with_reducible refine gate_dst (N := 6) rfl ?_); refine zbox 6 #[.int .i64 0, .int .i64 0, .int .i64 0, .int .i64 0, .string (⟨#[]⟩ : ByteArray)] 66 ?_; intro gb269 hg w24 hbox hb; have BK269 := zm (hbox); have GW269 := zge w hg zB; have GE269 := zge w hg zB; replace HB := zm (below_step zB hb); have NB261_269 := zlt hg (zb BK261); have NB269_261 := zgt hg (zb BK261); replace BK261 := zm (blk_below (zb BK261) hb); have NB262_269 := zlt hg (zb BK262); have NB269_262 := zgt hg (zb BK262); replace BK262 := zm (blk_below (zb BK262) hb); clear hb hbox hg; have hnb25 := NB269_261.out; have hnc25 := NB261_269.out; have hnb26 := NB269_262.out; have hnc26 := NB262_269.out; have hcz27_0 : w24.cell? ⟨gb269, 0, none⟩ = some (.int .i64 0) := (blk_cell BK269.out 0).trans rfl; have hcz27_1 : w24.cell? ⟨gb269, 1, none⟩ = some (.int .i64 0) := (blk_cell BK269.out 1).trans rfl; have hcz27_2 : w24.cell? ⟨gb269, 2, none⟩ = some (.int .i64 0) := (blk_cell BK269.out 2).trans rfl; have hcz27_3 : w24.cell? ⟨gb269, 3, none⟩ = some (.int .i64 0) := (blk_cell BK269.out 3).trans rfl; have hcz27_4 : w24.cell? ⟨gb269, 4, none⟩ = some (.string (⟨#[]⟩ : ByteArray)) := (blk_cell BK269.out 4).trans rfl; have hfz27_0 := blk_frozen BK269.out 0; have hfz27_1 := blk_frozen BK269.out 1; have hfz27_2 := blk_frozen BK269.out 2; have hfz27_3 := blk_frozen BK269.out 3; have hfz27_4 := blk_frozen BK269.out 4; have hcz28_0 : w24.cell? ⟨gb262, 0, none⟩ = some (.slice none 0 0) := (blk_cell BK262.out 0).trans rfl; have hcz28_1 : w24.cell? ⟨gb262, 1, none⟩ = some (.slice none 0 0) := (blk_cell BK262.out 1).trans rfl; have hfz28_0 := blk_frozen BK262.out 0; have hfz28_1 := blk_frozen BK262.out 1))
  refine bodyPost_ret (results_ct rfl _ _ gb262 32 #[.slice none 0 0, .slice none 0 0] (0, 0) _ rfl (zput (zput (zfar (zfar (zfar (zfar (zfar (zb BK262) NB262_269) NB262_269) NB262_269) NB262_269) NB262_269) 0) 1) Try.underlying32 rfl (by kernel_rfl)) rfl ?_
  exact ⟨_, _, zE, by first | exact Kd.R_nil _ _ _ _ _ | exact Kd.N_nil _ _ _ _ _ | exact Kd.V_nil _ _ _ _ _ | exact Kd.Q_nil _ _ _ _ _ | exact Kd.S_nil _ _ _ _ _, by first | exact Kd.R_nil _ _ _ _ _ | exact Kd.N_nil _ _ _ _ _ | exact Kd.V_nil _ _ _ _ _ | exact Kd.Q_nil _ _ _ _ _ | exact Kd.S_nil _ _ _ _ _, zB⟩

/-! ### impl_within: function 64 -/
def impl_within.f (a0 : Int) (a1 : Int) (a2 : Int) : Option (Bool) := if a0 ≥ a1 then (some (decide (a0 ≤ a2))) else (some false)
set_option maxHeartbeats 8000000 in
set_option maxRecDepth 100000 in
theorem impl_within.calls (a0 : Int) (a1 : Int) (a2 : Int) (r : Bool) (w : World) (h : impl_within.f a0 a1 a2 = some r) :
  Calls Try.prog 64 #[.int .i64 a0, .int .i64 a1, .int .i64 a2] w fun e w' => e = .returned (.bool r) ∧ Drawn0 w w' := by
 have H : (if a0 ≥ a1 then (some (decide (a0 ≤ a2))) else (some false)) = some r := h
 clear h
 by_cases c4 : a0 ≥ a1
 ·rw [if_pos c4] at H
  have c4b0 : decide (a1 ≤ a0) = true := decide_eq_true c4
  clear c4
  obtain rfl := Option.some.inj H
  go_enter Try.func64, Try.ntmps64
  go_wp2
  go_ret
  exact ⟨zF, zD⟩
 ·rw [if_neg c4] at H
  have c4b0 : decide (a1 ≤ a0) = false := decide_eq_false c4
  clear c4
  obtain rfl := Option.some.inj H
  go_enter Try.func64, Try.ntmps64
  go_wp2
  go_ret
  exact ⟨zF, zD⟩

/-! ### impl_FloorOf: function 77 -/
def impl_FloorOf.l0 : Nat → Int → List (S72) → Int → Int → Option (Int)
 | 0, _, _, _, _ => none
 | k + 1, x1, x8, x9, x10 => if x10 < x9 then (if 0 ≤ x10 then (if x10 < (x8.length : Int) then (if ((rd_T72 x8 x10).f0) = x1 then (some ((rd_T72 x8 x10).f1)) else (impl_FloorOf.l0 k x1 x8 x9 (wrap64 (x10 + 1)))) else (none)) else (none)) else (some 0)
def impl_FloorOf.f (k : Nat) (l0_0 : List (S68)) (l0_1 : List (S72)) (a1 : Int) : Option (Int) := impl_FloorOf.l0 k a1 l0_1 (l0_1.length : Int) 0
theorem impl_FloorOf.mono_l : ∀ k, (∀ y0 y1 y2 y3, LeO (impl_FloorOf.l0 k y0 y1 y2 y3) (impl_FloorOf.l0 (k + 1) y0 y1 y2 y3))
 | 0 => fun _ _ _ _ r h => by simp [impl_FloorOf.l0] at h
 | k + 1 => by
  have ih0 := impl_FloorOf.mono_l k
  ·intro y0 y1 y2 y3
   unfold impl_FloorOf.l0
   repeat' first
   | (with_reducible exact ih0 _ _ _ _)
   | (with_reducible exact LeO.refl _)
   | (with_reducible exact LeO.none _)
   | (with_reducible refine LeO.ite ?_ ?_)
   | (with_reducible refine LeO.bind ?_ (fun _ => ?_))
   | exact ih0 _ _ _ _
   | exact LeO.none _
   | refine LeO.ite ?_ ?_
   | refine LeO.bind ?_ (fun _ => ?_)
theorem impl_FloorOf.mono : ∀ a0 a1 a2 k, LeO (impl_FloorOf.f k a0 a1 a2) (impl_FloorOf.f (k + 1) a0 a1 a2) := by
 intro a0 a1 a2 k
 have ih0 := impl_FloorOf.mono_l k
 unfold impl_FloorOf.f
 repeat' first
   | (with_reducible exact ih0 _ _ _ _)
   | (with_reducible exact LeO.refl _)
   | (with_reducible exact LeO.none _)
   | (with_reducible refine LeO.ite ?_ ?_)
   | (with_reducible refine LeO.bind ?_ (fun _ => ?_))
   | exact ih0 _ _ _ _
   | exact LeO.none _
   | refine LeO.ite ?_ ?_
   | refine LeO.bind ?_ (fun _ => ?_)
set_option maxHeartbeats 8000000 in
set_option maxRecDepth 100000 in
theorem impl_FloorOf.calls (k : Nat) (A0_0 : Option Addr) (c0_0 : Nat) (l0_0 : List (S68)) (A0_1 : Option Addr) (c0_1 : Nat) (l0_1 : List (S72)) (a1 : Int) (r : Int) (w : World) (hr0_0 : Kd.C k68 w A0_0 l0_0.length l0_0) (hc0_0 : l0_0.length ≤ c0_0) (hr0_1 : Kd.C k72 w A0_1 l0_1.length l0_1) (hc0_1 : l0_1.length ≤ c0_1) (h : impl_FloorOf.f k l0_0 l0_1 a1 = some r) :
  Calls Try.prog 77 #[.agg #[.slice A0_0 l0_0.length c0_0, .slice A0_1 l0_1.length c0_1], .int .i64 a1] w fun e w' => e = .returned (.int .i64 r) ∧ Below w.heap.size w w' := by
 have hu32 := Try.underlying32
 have hu72 := Try.underlying72
 have HR0_0 := zm hr0_0
 have HC0_0 := zm hc0_0
 clear hr0_0 hc0_0
 have HR0_1 := zm hr0_1
 have HC0_1 := zm hc0_1
 clear hr0_1 hc0_1
 have HB := zm (Below.refl w.heap.size w)
 have H : (impl_FloorOf.l0 k a1 l0_1 (l0_1.length : Int) 0) = some r := h
 clear h
 have H' := zm H
 clear H
 go_enter Try.func77, Try.ntmps77
 go_wp2_with (first | ((with_reducible refine gate_dst (N := 2) rfl ?_); refine zbox 2 #[.slice A0_0 l0_0.length c0_0, .slice A0_1 l0_1.length c0_1] 32 ?_; intro gb277 hg w3 hbox hb; have BK277 := zm (hbox); have GW277 := zge w hg zB; have GE277 := zge w hg zB; replace HB := zm (below_step zB hb); clear hb hbox hg; have hcz4_0 : w3.cell? ⟨gb277, 0, none⟩ = some (.slice A0_0 l0_0.length c0_0) := (blk_cell BK277.out 0).trans rfl; have hcz4_1 : w3.cell? ⟨gb277, 1, none⟩ = some (.slice A0_1 l0_1.length c0_1) := (blk_cell BK277.out 1).trans rfl; have hfz4_0 := blk_frozen BK277.out 0; have hfz4_1 := blk_frozen BK277.out 1))
 go_loopg [10] k (fun kq v10 w' => ∃ (x10_1 : Int), v10 = .int .i64 x10_1 ∧ Aside0 (impl_FloorOf.l0 kq a1 l0_1 (l0_1.length : Int) x10_1 = some r) ∧ Aside0 (kq ≤ k) ∧ Aside0 (w'.heap[gb277]? = some (.cells #[(.slice A0_0 l0_0.length c0_0), (.slice A0_1 l0_1.length c0_1)] 32 (0, 0))) ∧ Aside0 (Below w.heap.size w w'))
 case atStart => exact ⟨(0), zF, H', ⟨Nat.le_refl _⟩, ⟨zb BK277⟩, ⟨zB⟩⟩
 case round =>
  clear H'
  try clear p2
  try clear hcz4_0
  try clear hcz4_1
  try clear hfz4_0
  try clear hfz4_1
  obtain ⟨x10_1, rfl, HA, HK1, BK277, HB⟩ := hrel
  cases gk with
  | zero => exact absurd HA.out (by simp [impl_FloorOf.l0])
  | succ k1 =>
   have H := HA.out
   clear HA
   simp only [impl_FloorOf.l0] at H
   by_cases c5 : x10_1 < (l0_1.length : Int)
   ·rw [if_pos c5] at H
    have c5b0 : decide (x10_1 < (l0_1.length : Int)) = true := decide_eq_true c5
    clear c5
    by_cases c6 : 0 ≤ x10_1
    ·rw [if_pos c6] at H
     have c6b0 : decide (0 ≤ x10_1) = true := decide_eq_true c6
     clear c6
     by_cases c7 : x10_1 < (l0_1.length : Int)
     ·rw [if_pos c7] at H
      have c7b0 : decide (x10_1 < (l0_1.length : Int)) = true := decide_eq_true c7
      clear c7
      by_cases c8 : ((rd_T72 l0_1 x10_1).f0) = a1
      ·rw [if_pos c8] at H
       have c8b0 : (((rd_T72 l0_1 x10_1).f0) == a1) = true := beq_iff_eq.mpr c8
       have c8b1 : (((rd_T72 l0_1 x10_1).f0) != a1) = false := bne_eq_false_iff_eq.mpr c8
       clear c8
       obtain rfl := Option.some.inj H
       have p278 : 0 ≤ (x10_1 : Int) := zd
       have q278 : x10_1 < (l0_1.length : Int) := zd
       obtain ⟨ad278, e278, hx278_0, hx278_1⟩ := at_T72 (Kd.C_below HR0_1.out HB.out) x10_1 p278 q278
       cases e278
       replace p278 := eq_true p278
       replace q278 := eq_true q278
       go_wp2_with (first | ((with_reducible refine gate_dst (N := 6) rfl ?_); refine zbox 6 #[.int .i64 0, .int .i64 0] 72 ?_; intro gb279 hg w9 hbox hb; have BK279 := zm (hbox); have GW279 := zge w hg zB; have GE279 := zge w hg zB; replace HB := zm (below_step zB hb); have NB277_279 := zlt hg (zb BK277); have NB279_277 := zgt hg (zb BK277); replace BK277 := zm (blk_below (zb BK277) hb); clear hb hbox hg; have hnb10 := NB279_277.out; have hnc10 := NB277_279.out; have hcz11_0 : w9.cell? ⟨gb279, 0, none⟩ = some (.int .i64 0) := (blk_cell BK279.out 0).trans rfl; have hcz11_1 : w9.cell? ⟨gb279, 1, none⟩ = some (.int .i64 0) := (blk_cell BK279.out 1).trans rfl; have hfz11_0 := blk_frozen BK279.out 0; have hfz11_1 := blk_frozen BK279.out 1))
       go_ret
       exact ⟨zE, zB⟩
      ·rw [if_neg c8] at H
       have c8b0 : (((rd_T72 l0_1 x10_1).f0) == a1) = false := beq_eq_false_iff_ne.mpr c8
       have c8b1 : (((rd_T72 l0_1 x10_1).f0) != a1) = true := bne_iff_ne.mpr c8
       have H' := zm H
       clear H
       have p278 : 0 ≤ (x10_1 : Int) := zd
       have q278 : x10_1 < (l0_1.length : Int) := zd
       obtain ⟨ad278, e278, hx278_0, hx278_1⟩ := at_T72 (Kd.C_below HR0_1.out HB.out) x10_1 p278 q278
       cases e278
       replace p278 := eq_true p278
       replace q278 := eq_true q278
       go_wp2_with (first | ((with_reducible refine gate_dst (N := 6) rfl ?_); refine zbox 6 #[.int .i64 0, .int .i64 0] 72 ?_; intro gb279 hg w12 hbox hb; have BK279 := zm (hbox); have GW279 := zge w hg zB; have GE279 := zge w hg zB; replace HB := zm (below_step zB hb); have NB277_279 := zlt hg (zb BK277); have NB279_277 := zgt hg (zb BK277); replace BK277 := zm (blk_below (zb BK277) hb); clear hb hbox hg; have hnb13 := NB279_277.out; have hnc13 := NB277_279.out; have hcz14_0 : w12.cell? ⟨gb279, 0, none⟩ = some (.int .i64 0) := (blk_cell BK279.out 0).trans rfl; have hcz14_1 : w12.cell? ⟨gb279, 1, none⟩ = some (.int .i64 0) := (blk_cell BK279.out 1).trans rfl; have hfz14_0 := blk_frozen BK279.out 0; have hfz14_1 := blk_frozen BK279.out 1))
       go_roundg k1
       case measure => have := HK1.out; omega
       case rel => exact ⟨(wrap64 (x10_1 + 1)), zF, H', ⟨by have := HK1.out; omega⟩, ⟨zfar (zfar (zb BK277) NB277_279) NB277_279⟩, ⟨zB⟩⟩
     ·rw [if_neg c7] at H
      exact absurd H (by simp)
    ·rw [if_neg c6] at H
     exact absurd H (by simp)
   ·rw [if_neg c5] at H
    have c5b0 : decide (x10_1 < (l0_1.length : Int)) = false := decide_eq_false c5
    clear c5
    obtain rfl := Option.some.inj H
    go_wp2
    go_ret
    exact ⟨zE, zB⟩

/-! ### impl_isNode: function 94 -/
def impl_isNode.f (a0 : Int) : Option (Bool) := (impl_within.f a0 0 4).bind fun t280 => (some t280)
set_option maxHeartbeats 8000000 in
set_option maxRecDepth 100000 in
theorem impl_isNode.calls (a0 : Int) (r : Bool) (w : World) (h : impl_isNode.f a0 = some r) :
  Calls Try.prog 94 #[.int .i64 a0] w fun e w' => e = .returned (.bool r) ∧ Drawn0 w w' := by
 have H : ((impl_within.f a0 0 4).bind fun t280 => (some t280)) = some r := h
 clear h
 replace H := Option.bind_eq_some_iff.mp H
 obtain ⟨t280, A20, H⟩ := H
 replace H : (some t280) = some r := H
 have A2 := zm A20
 clear A20
 obtain rfl := Option.some.inj H
 go_enter Try.func94, Try.ntmps94
 go_wp2_with (first | ((with_reducible refine gate_callee (f := 64) rfl ?_); refine zg (some 4) #[.int .i64 a0, .int .i64 0, .int .i64 4] Try.func64 ?_; (with_reducible refine (impl_within.calls a0 0 4 t280 _ A2.out).mono ?_); rintro e w' ⟨rfl, ⟨nd, rfl⟩⟩; refine ⟨_, rfl, ?_⟩))
 go_ret
 exact ⟨zF, zD⟩

/-! ### impl_EntryOk: function 95 -/
def impl_EntryOk.f (a0_0 : Int) (a0_1 : Int) (a0_2 : Int) (a0_3 : Int) (a0_4 : ByteArray) : Option (Bool) := (impl_within.f a0_0 1 1000).bind fun t282 => (if t282 = true then ((impl_within.f a0_1 0 1).bind fun t283 => (if t283 = true then ((impl_within.f a0_2 0 100000).bind fun t284 => (if t284 = true then ((impl_within.f a0_3 0 1000).bind fun t285 => (if t285 = true then (some (decide ((a0_4.size : Int) ≤ 8))) else (some false))) else (some false))) else (some false))) else (some false))
set_option maxHeartbeats 8000000 in
set_option maxRecDepth 100000 in
theorem impl_EntryOk.calls (a0_0 : Int) (a0_1 : Int) (a0_2 : Int) (a0_3 : Int) (a0_4 : ByteArray) (r : Bool) (w : World) (h : impl_EntryOk.f a0_0 a0_1 a0_2 a0_3 a0_4 = some r) :
  Calls Try.prog 95 #[.agg #[.int .i64 a0_0, .int .i64 a0_1, .int .i64 a0_2, .int .i64 a0_3, .string a0_4]] w fun e w' => e = .returned (.bool r) ∧ Below w.heap.size w w' := by
 have hu66 := Try.underlying66
 have HB := zm (Below.refl w.heap.size w)
 have H : ((impl_within.f a0_0 1 1000).bind fun t282 => (if t282 = true then ((impl_within.f a0_1 0 1).bind fun t283 => (if t283 = true then ((impl_within.f a0_2 0 100000).bind fun t284 => (if t284 = true then ((impl_within.f a0_3 0 1000).bind fun t285 => (if t285 = true then (some (decide ((a0_4.size : Int) ≤ 8))) else (some false))) else (some false))) else (some false))) else (some false))) = some r := h
 clear h
 replace H := Option.bind_eq_some_iff.mp H
 obtain ⟨t282, A20, H⟩ := H
 replace H : (if t282 = true then ((impl_within.f a0_1 0 1).bind fun t283 => (if t283 = true then ((impl_within.f a0_2 0 100000).bind fun t284 => (if t284 = true then ((impl_within.f a0_3 0 1000).bind fun t285 => (if t285 = true then (some (decide ((a0_4.size : Int) ≤ 8))) else (some false))) else (some false))) else (some false))) else (some false)) = some r := H
 have A2 := zm A20
 clear A20
 by_cases c3 : t282 = true
 ·subst c3
  have H1 : ((impl_within.f a0_1 0 1).bind fun t283 => (if t283 = true then ((impl_within.f a0_2 0 100000).bind fun t284 => (if t284 = true then ((impl_within.f a0_3 0 1000).bind fun t285 => (if t285 = true then (some (decide ((a0_4.size : Int) ≤ 8))) else (some false))) else (some false))) else (some false))) = some r := by rw [if_pos rfl] at H; exact H
  clear H
  have H := H1
  clear H1
  replace H := Option.bind_eq_some_iff.mp H
  obtain ⟨t283, A40, H⟩ := H
  replace H : (if t283 = true then ((impl_within.f a0_2 0 100000).bind fun t284 => (if t284 = true then ((impl_within.f a0_3 0 1000).bind fun t285 => (if t285 = true then (some (decide ((a0_4.size : Int) ≤ 8))) else (some false))) else (some false))) else (some false)) = some r := H
  have A4 := zm A40
  clear A40
  by_cases c5 : t283 = true
  ·subst c5
   have H1 : ((impl_within.f a0_2 0 100000).bind fun t284 => (if t284 = true then ((impl_within.f a0_3 0 1000).bind fun t285 => (if t285 = true then (some (decide ((a0_4.size : Int) ≤ 8))) else (some false))) else (some false))) = some r := by rw [if_pos rfl] at H; exact H
   clear H
   have H := H1
   clear H1
   replace H := Option.bind_eq_some_iff.mp H
   obtain ⟨t284, A60, H⟩ := H
   replace H : (if t284 = true then ((impl_within.f a0_3 0 1000).bind fun t285 => (if t285 = true then (some (decide ((a0_4.size : Int) ≤ 8))) else (some false))) else (some false)) = some r := H
   have A6 := zm A60
   clear A60
   by_cases c7 : t284 = true
   ·subst c7
    have H1 : ((impl_within.f a0_3 0 1000).bind fun t285 => (if t285 = true then (some (decide ((a0_4.size : Int) ≤ 8))) else (some false))) = some r := by rw [if_pos rfl] at H; exact H
    clear H
    have H := H1
    clear H1
    replace H := Option.bind_eq_some_iff.mp H
    obtain ⟨t285, A80, H⟩ := H
    replace H : (if t285 = true then (some (decide ((a0_4.size : Int) ≤ 8))) else (some false)) = some r := H
    have A8 := zm A80
    clear A80
    by_cases c9 : t285 = true
    ·subst c9
     have H1 : (some (decide ((a0_4.size : Int) ≤ 8))) = some r := by rw [if_pos rfl] at H; exact H
     clear H
     have H := H1
     clear H1
     obtain rfl := Option.some.inj H
     go_enter Try.func95, Try.ntmps95
     go_wp2_with (first | ((with_reducible refine gate_dst (N := 1) rfl ?_); (try (refine gate_guard (by rfl) ?_; dsimp only)); refine zbox 1 #[.int .i64 a0_0, .int .i64 a0_1, .int .i64 a0_2, .int .i64 a0_3, .string a0_4] 66 ?_; intro gb281 hg w10 hbox hb; have BK281 := zm (hbox); have GW281 := zge w hg zB; have GE281 := zge w hg zB; replace HB := zm (below_step zB hb); clear hb hbox hg; have hcz11_0 : w10.cell? ⟨gb281, 0, none⟩ = some (.int .i64 a0_0) := (blk_cell BK281.out 0).trans rfl; have hcz11_1 : w10.cell? ⟨gb281, 1, none⟩ = some (.int .i64 a0_1) := (blk_cell BK281.out 1).trans rfl; have hcz11_2 : w10.cell? ⟨gb281, 2, none⟩ = some (.int .i64 a0_2) := (blk_cell BK281.out 2).trans rfl; have hcz11_3 : w10.cell? ⟨gb281, 3, none⟩ = some (.int .i64 a0_3) := (blk_cell BK281.out 3).trans rfl; have hcz11_4 : w10.cell? ⟨gb281, 4, none⟩ = some (.string a0_4) := (blk_cell BK281.out 4).trans rfl; have hfz11_0 := blk_frozen BK281.out 0; have hfz11_1 := blk_frozen BK281.out 1; have hfz11_2 := blk_frozen BK281.out 2; have hfz11_3 := blk_frozen BK281.out 3; have hfz11_4 := blk_frozen BK281.out 4) | ((with_reducible refine gate_callee (f := 64) rfl ?_); refine zg (some 5) #[.int .i64 a0_0, .int .i64 1, .int .i64 1000] Try.func64 ?_; (with_reducible refine (impl_within.calls a0_0 1 1000 true _ A2.out).mono ?_); rintro e w' ⟨rfl, ⟨nd, rfl⟩⟩; refine ⟨_, rfl, ?_⟩) | (go_at_call 64; (with_reducible refine (impl_within.calls a0_1 0 1 true _ A4.out).mono ?_); rintro e w' ⟨rfl, ⟨nd, rfl⟩⟩) | (go_at_call 64; (with_reducible refine (impl_within.calls a0_2 0 100000 true _ A6.out).mono ?_); rintro e w' ⟨rfl, ⟨nd, rfl⟩⟩) | (go_at_call 64; (with_reducible refine (impl_within.calls a0_3 0 1000 true _ A8.out).mono ?_); rintro e w' ⟨rfl, ⟨nd, rfl⟩⟩))
     go_ret
     exact ⟨zE, zB⟩
    ·replace c9 := Bool.eq_false_iff.mpr c9
     subst c9
     have H1 : (some false) = some r := by rw [if_neg (show ¬ (false = true) by decide)] at H; exact H
     clear H
     have H := H1
     clear H1
     obtain rfl := Option.some.inj H
     go_enter Try.func95, Try.ntmps95
     go_wp2_with (first | ((with_reducible refine gate_dst (N := 1) rfl ?_); (try (refine gate_guard (by rfl) ?_; dsimp only)); refine zbox 1 #[.int .i64 a0_0, .int .i64 a0_1, .int .i64 a0_2, .int .i64 a0_3, .string a0_4] 66 ?_; intro gb281 hg w12 hbox hb; have BK281 := zm (hbox); have GW281 := zge w hg zB; have GE281 := zge w hg zB; replace HB := zm (below_step zB hb); clear hb hbox hg; have hcz13_0 : w12.cell? ⟨gb281, 0, none⟩ = some (.int .i64 a0_0) := (blk_cell BK281.out 0).trans rfl; have hcz13_1 : w12.cell? ⟨gb281, 1, none⟩ = some (.int .i64 a0_1) := (blk_cell BK281.out 1).trans rfl; have hcz13_2 : w12.cell? ⟨gb281, 2, none⟩ = some (.int .i64 a0_2) := (blk_cell BK281.out 2).trans rfl; have hcz13_3 : w12.cell? ⟨gb281, 3, none⟩ = some (.int .i64 a0_3) := (blk_cell BK281.out 3).trans rfl; have hcz13_4 : w12.cell? ⟨gb281, 4, none⟩ = some (.string a0_4) := (blk_cell BK281.out 4).trans rfl; have hfz13_0 := blk_frozen BK281.out 0; have hfz13_1 := blk_frozen BK281.out 1; have hfz13_2 := blk_frozen BK281.out 2; have hfz13_3 := blk_frozen BK281.out 3; have hfz13_4 := blk_frozen BK281.out 4) | ((with_reducible refine gate_callee (f := 64) rfl ?_); refine zg (some 5) #[.int .i64 a0_0, .int .i64 1, .int .i64 1000] Try.func64 ?_; (with_reducible refine (impl_within.calls a0_0 1 1000 true _ A2.out).mono ?_); rintro e w' ⟨rfl, ⟨nd, rfl⟩⟩; refine ⟨_, rfl, ?_⟩) | (go_at_call 64; (with_reducible refine (impl_within.calls a0_1 0 1 true _ A4.out).mono ?_); rintro e w' ⟨rfl, ⟨nd, rfl⟩⟩) | (go_at_call 64; (with_reducible refine (impl_within.calls a0_2 0 100000 true _ A6.out).mono ?_); rintro e w' ⟨rfl, ⟨nd, rfl⟩⟩) | (go_at_call 64; (with_reducible refine (impl_within.calls a0_3 0 1000 false _ A8.out).mono ?_); rintro e w' ⟨rfl, ⟨nd, rfl⟩⟩))
     go_ret
     exact ⟨zE, zB⟩
   ·replace c7 := Bool.eq_false_iff.mpr c7
    subst c7
    have H1 : (some false) = some r := by rw [if_neg (show ¬ (false = true) by decide)] at H; exact H
    clear H
    have H := H1
    clear H1
    obtain rfl := Option.some.inj H
    go_enter Try.func95, Try.ntmps95
    go_wp2_with (first | ((with_reducible refine gate_dst (N := 1) rfl ?_); (try (refine gate_guard (by rfl) ?_; dsimp only)); refine zbox 1 #[.int .i64 a0_0, .int .i64 a0_1, .int .i64 a0_2, .int .i64 a0_3, .string a0_4] 66 ?_; intro gb281 hg w14 hbox hb; have BK281 := zm (hbox); have GW281 := zge w hg zB; have GE281 := zge w hg zB; replace HB := zm (below_step zB hb); clear hb hbox hg; have hcz15_0 : w14.cell? ⟨gb281, 0, none⟩ = some (.int .i64 a0_0) := (blk_cell BK281.out 0).trans rfl; have hcz15_1 : w14.cell? ⟨gb281, 1, none⟩ = some (.int .i64 a0_1) := (blk_cell BK281.out 1).trans rfl; have hcz15_2 : w14.cell? ⟨gb281, 2, none⟩ = some (.int .i64 a0_2) := (blk_cell BK281.out 2).trans rfl; have hcz15_3 : w14.cell? ⟨gb281, 3, none⟩ = some (.int .i64 a0_3) := (blk_cell BK281.out 3).trans rfl; have hcz15_4 : w14.cell? ⟨gb281, 4, none⟩ = some (.string a0_4) := (blk_cell BK281.out 4).trans rfl; have hfz15_0 := blk_frozen BK281.out 0; have hfz15_1 := blk_frozen BK281.out 1; have hfz15_2 := blk_frozen BK281.out 2; have hfz15_3 := blk_frozen BK281.out 3; have hfz15_4 := blk_frozen BK281.out 4) | ((with_reducible refine gate_callee (f := 64) rfl ?_); refine zg (some 5) #[.int .i64 a0_0, .int .i64 1, .int .i64 1000] Try.func64 ?_; (with_reducible refine (impl_within.calls a0_0 1 1000 true _ A2.out).mono ?_); rintro e w' ⟨rfl, ⟨nd, rfl⟩⟩; refine ⟨_, rfl, ?_⟩) | (go_at_call 64; (with_reducible refine (impl_within.calls a0_1 0 1 true _ A4.out).mono ?_); rintro e w' ⟨rfl, ⟨nd, rfl⟩⟩) | (go_at_call 64; (with_reducible refine (impl_within.calls a0_2 0 100000 false _ A6.out).mono ?_); rintro e w' ⟨rfl, ⟨nd, rfl⟩⟩))
    go_ret
    exact ⟨zE, zB⟩
  ·replace c5 := Bool.eq_false_iff.mpr c5
   subst c5
   have H1 : (some false) = some r := by rw [if_neg (show ¬ (false = true) by decide)] at H; exact H
   clear H
   have H := H1
   clear H1
   obtain rfl := Option.some.inj H
   go_enter Try.func95, Try.ntmps95
   go_wp2_with (first | ((with_reducible refine gate_dst (N := 1) rfl ?_); (try (refine gate_guard (by rfl) ?_; dsimp only)); refine zbox 1 #[.int .i64 a0_0, .int .i64 a0_1, .int .i64 a0_2, .int .i64 a0_3, .string a0_4] 66 ?_; intro gb281 hg w16 hbox hb; have BK281 := zm (hbox); have GW281 := zge w hg zB; have GE281 := zge w hg zB; replace HB := zm (below_step zB hb); clear hb hbox hg; have hcz17_0 : w16.cell? ⟨gb281, 0, none⟩ = some (.int .i64 a0_0) := (blk_cell BK281.out 0).trans rfl; have hcz17_1 : w16.cell? ⟨gb281, 1, none⟩ = some (.int .i64 a0_1) := (blk_cell BK281.out 1).trans rfl; have hcz17_2 : w16.cell? ⟨gb281, 2, none⟩ = some (.int .i64 a0_2) := (blk_cell BK281.out 2).trans rfl; have hcz17_3 : w16.cell? ⟨gb281, 3, none⟩ = some (.int .i64 a0_3) := (blk_cell BK281.out 3).trans rfl; have hcz17_4 : w16.cell? ⟨gb281, 4, none⟩ = some (.string a0_4) := (blk_cell BK281.out 4).trans rfl; have hfz17_0 := blk_frozen BK281.out 0; have hfz17_1 := blk_frozen BK281.out 1; have hfz17_2 := blk_frozen BK281.out 2; have hfz17_3 := blk_frozen BK281.out 3; have hfz17_4 := blk_frozen BK281.out 4) | ((with_reducible refine gate_callee (f := 64) rfl ?_); refine zg (some 5) #[.int .i64 a0_0, .int .i64 1, .int .i64 1000] Try.func64 ?_; (with_reducible refine (impl_within.calls a0_0 1 1000 true _ A2.out).mono ?_); rintro e w' ⟨rfl, ⟨nd, rfl⟩⟩; refine ⟨_, rfl, ?_⟩) | (go_at_call 64; (with_reducible refine (impl_within.calls a0_1 0 1 false _ A4.out).mono ?_); rintro e w' ⟨rfl, ⟨nd, rfl⟩⟩))
   go_ret
   exact ⟨zE, zB⟩
 ·replace c3 := Bool.eq_false_iff.mpr c3
  subst c3
  have H1 : (some false) = some r := by rw [if_neg (show ¬ (false = true) by decide)] at H; exact H
  clear H
  have H := H1
  clear H1
  obtain rfl := Option.some.inj H
  go_enter Try.func95, Try.ntmps95
  go_wp2_with (first | ((with_reducible refine gate_dst (N := 1) rfl ?_); (try (refine gate_guard (by rfl) ?_; dsimp only)); refine zbox 1 #[.int .i64 a0_0, .int .i64 a0_1, .int .i64 a0_2, .int .i64 a0_3, .string a0_4] 66 ?_; intro gb281 hg w18 hbox hb; have BK281 := zm (hbox); have GW281 := zge w hg zB; have GE281 := zge w hg zB; replace HB := zm (below_step zB hb); clear hb hbox hg; have hcz19_0 : w18.cell? ⟨gb281, 0, none⟩ = some (.int .i64 a0_0) := (blk_cell BK281.out 0).trans rfl; have hcz19_1 : w18.cell? ⟨gb281, 1, none⟩ = some (.int .i64 a0_1) := (blk_cell BK281.out 1).trans rfl; have hcz19_2 : w18.cell? ⟨gb281, 2, none⟩ = some (.int .i64 a0_2) := (blk_cell BK281.out 2).trans rfl; have hcz19_3 : w18.cell? ⟨gb281, 3, none⟩ = some (.int .i64 a0_3) := (blk_cell BK281.out 3).trans rfl; have hcz19_4 : w18.cell? ⟨gb281, 4, none⟩ = some (.string a0_4) := (blk_cell BK281.out 4).trans rfl; have hfz19_0 := blk_frozen BK281.out 0; have hfz19_1 := blk_frozen BK281.out 1; have hfz19_2 := blk_frozen BK281.out 2; have hfz19_3 := blk_frozen BK281.out 3; have hfz19_4 := blk_frozen BK281.out 4) | ((with_reducible refine gate_callee (f := 64) rfl ?_); refine zg (some 5) #[.int .i64 a0_0, .int .i64 1, .int .i64 1000] Try.func64 ?_; (with_reducible refine (impl_within.calls a0_0 1 1000 false _ A2.out).mono ?_); rintro e w' ⟨rfl, ⟨nd, rfl⟩⟩; refine ⟨_, rfl, ?_⟩))
  go_ret
  exact ⟨zE, zB⟩

end Go.Proofs.Ytgapdegniepjiaa.P
