-- by a program, for this seat
import Derived.Test.YtbchblgnpkddpaaZ
import Derived.Test.YtbchblgnpkddpaaPFnExactDifferx0
import Derived.Test.YtbchblgnpkddpaaPFnExactDifferx1
import Derived.Test.YtbchblgnpkddpaaPFnExactDifferx2
namespace Go.Proofs.Ytbchblgnpkddpaa.PFnExactDiffer
open Go.RowKit Go.Proofs.YtbchblgnpkddpaaW.PrintWords Go.Proofs.YtbchblgnpkddpaaW.PrintLast Go.Proofs.YtbchblgnpkddpaaW.PrintMore Go.Proofs.Ytbchblgnpkddpaa.Z
attribute [local go_sem] max2_int min2_int max_two min_two max_three min_three max_four min_four   -- for this text's walks alone
set_option linter.unusedVariables false
set_option linter.unusedSimpArgs false

/-! ### laws_FnExactDiffer: function 14 -/
def laws_FnExactDiffer.j0 : Nat → List Int → List Int → Bool → List Int → Int → List Int → Int → Option (Bool)
 | 0, _, _, _, _, _, _, _ => none
 | k + 1, x6, x9, x63, x154000, x154001, x155000, x155001 => if x63 = true then (some false) else ((laws_markIntS.f k x9 1).bind fun bt197 => ((laws_heldIntS.f k bt197.2 1).bind fun t199 => (if t199 < 0 then (some false) else (if t199 = bt197.1 then ((laws_toTree.f k x154000 x154001).bind fun bt200 => ((laws_toTree.f k x155000 x155001).bind fun bt204 => ((impl_Differ.f k bt200.1 bt200.2 bt204.1 bt204.2).bind fun t208 => ((laws_eqIntS.f k t208 x6).bind fun t211 => (if t211 = true then ((laws_heldIntS.f k bt197.2 1).bind fun t212 => (if t212 < 0 then (some false) else (if t212 = bt197.1 then (some true) else (some false)))) else (some false)))))) else (some false)))))
def laws_FnExactDiffer.f (k : Nat) (l0_0 : List Int) (a0_1 : Int) (l1_0 : List Int) (a1_1 : Int) : Option (Bool) := (laws_szTree.f l0_0 a0_1 1048576).bind fun t155 => (if t155 < 0 then (some true) else ((laws_szTree.f l1_0 a1_1 t155).bind fun t156 => (if t156 < 0 then (some true) else ((laws_toTree.f k l0_0 a0_1).bind fun bt157 => ((laws_toTree.f k l1_0 a1_1).bind fun bt161 => ((spec_Differ.f k bt157.1 bt157.2 bt161.1 bt161.2).bind fun t165 => ((laws_toTree.f k l0_0 a0_1).bind fun bt168 => ((laws_toTree.f k l1_0 a1_1).bind fun bt173 => ((impl_Differ.f k bt168.1 bt168.2 bt173.1 bt173.2).bind fun t178 => ((laws_eqIntS.f k t178 t165).bind fun t181 => (if t181 = true then ((laws_toTree.f k l0_0 a0_1).bind fun bt182 => ((laws_eqTree.f k bt168.1 bt168.2 bt182.1 bt182.2).bind fun t186 => (if t186 = true then ((laws_toTree.f k l1_0 a1_1).bind fun bt187 => ((laws_eqTree.f k bt173.1 bt173.2 bt187.1 bt187.2).bind fun t191 => (if t191 = true then ((laws_markTree.f k bt168.1 bt168.2 1).bind fun bt192 => ((laws_markTree.f k bt173.1 bt173.2 bt192.1).bind fun bt194 => (if bt194.1 < 0 then (laws_FnExactDiffer.j0 k t165 t178 true l0_0 a0_1 l1_0 a1_1) else ((laws_eqIntS.f k t178 t165).bind fun t196 => (laws_FnExactDiffer.j0 k t165 t178 (!t196) l0_0 a0_1 l1_0 a1_1))))) else (some false)))) else (some false)))) else (some false))))))))))))
theorem laws_FnExactDiffer.mono_l : ∀ k, (∀ y0 y1 y2 y3 y4 y5 y6, LeO (laws_FnExactDiffer.j0 k y0 y1 y2 y3 y4 y5 y6) (laws_FnExactDiffer.j0 (k + 1) y0 y1 y2 y3 y4 y5 y6))
 | 0 => fun _ _ _ _ _ _ _ r h => by simp [laws_FnExactDiffer.j0] at h
 | k + 1 => by
  have ih0 := laws_FnExactDiffer.mono_l k
  ·intro y0 y1 y2 y3 y4 y5 y6
   unfold laws_FnExactDiffer.j0
   repeat' first
   | (with_reducible exact ih0 _ _ _ _ _ _ _)
   | (with_reducible exact impl_Differ.mono _ _ _ _ _)
   | (with_reducible exact laws_eqIntS.mono _ _ _)
   | (with_reducible exact laws_eqTree.mono _ _ _ _ _)
   | (with_reducible exact laws_heldIntS.mono _ _ _)
   | (with_reducible exact laws_markIntS.mono _ _ _)
   | (with_reducible exact laws_markTree.mono _ _ _ _)
   | (with_reducible exact laws_toTree.mono _ _ _)
   | (with_reducible exact spec_Differ.mono _ _ _ _ _)
   | (with_reducible exact LeO.refl _)
   | (with_reducible exact LeO.none _)
   | (with_reducible refine LeO.ite ?_ ?_)
   | (with_reducible refine LeO.bind ?_ (fun _ => ?_))
   | exact ih0 _ _ _ _ _ _ _
   | exact impl_Differ.mono _ _ _ _ _
   | exact laws_eqIntS.mono _ _ _
   | exact laws_eqTree.mono _ _ _ _ _
   | exact laws_heldIntS.mono _ _ _
   | exact laws_markIntS.mono _ _ _
   | exact laws_markTree.mono _ _ _ _
   | exact laws_toTree.mono _ _ _
   | exact spec_Differ.mono _ _ _ _ _
   | exact LeO.none _
   | refine LeO.ite ?_ ?_
   | refine LeO.bind ?_ (fun _ => ?_)
theorem laws_FnExactDiffer.mono : ∀ a0 a1 a2 a3 k, LeO (laws_FnExactDiffer.f k a0 a1 a2 a3) (laws_FnExactDiffer.f (k + 1) a0 a1 a2 a3) := by
 intro a0 a1 a2 a3 k
 have ih0 := laws_FnExactDiffer.mono_l k
 unfold laws_FnExactDiffer.f
 repeat' first
   | (with_reducible exact ih0 _ _ _ _ _ _ _)
   | (with_reducible exact impl_Differ.mono _ _ _ _ _)
   | (with_reducible exact laws_eqIntS.mono _ _ _)
   | (with_reducible exact laws_eqTree.mono _ _ _ _ _)
   | (with_reducible exact laws_heldIntS.mono _ _ _)
   | (with_reducible exact laws_markIntS.mono _ _ _)
   | (with_reducible exact laws_markTree.mono _ _ _ _)
   | (with_reducible exact laws_toTree.mono _ _ _)
   | (with_reducible exact spec_Differ.mono _ _ _ _ _)
   | (with_reducible exact LeO.refl _)
   | (with_reducible exact LeO.none _)
   | (with_reducible refine LeO.ite ?_ ?_)
   | (with_reducible refine LeO.bind ?_ (fun _ => ?_))
   | exact ih0 _ _ _ _ _ _ _
   | exact impl_Differ.mono _ _ _ _ _
   | exact laws_eqIntS.mono _ _ _
   | exact laws_eqTree.mono _ _ _ _ _
   | exact laws_heldIntS.mono _ _ _
   | exact laws_markIntS.mono _ _ _
   | exact laws_markTree.mono _ _ _ _
   | exact laws_toTree.mono _ _ _
   | exact spec_Differ.mono _ _ _ _ _
   | exact LeO.none _
   | refine LeO.ite ?_ ?_
   | refine LeO.bind ?_ (fun _ => ?_)
set_option maxHeartbeats 8000000 in
set_option maxRecDepth 100000 in
theorem laws_FnExactDiffer.calls (k : Nat) (A0_0 : Option Addr) (c0_0 : Nat) (l0_0 : List Int) (a0_1 : Int) (A1_0 : Option Addr) (c1_0 : Nat) (l1_0 : List Int) (a1_1 : Int) (r : Bool) (w : World) (hr0_0 : Kd.C (Kd.int .i64) w A0_0 l0_0.length l0_0) (hc0_0 : l0_0.length ≤ c0_0) (hr1_0 : Kd.C (Kd.int .i64) w A1_0 l1_0.length l1_0) (hc1_0 : l1_0.length ≤ c1_0) (h : laws_FnExactDiffer.f k l0_0 a0_1 l1_0 a1_1 = some r) :
  Calls Try.prog 14 #[.agg #[.slice A0_0 l0_0.length c0_0, .int .i64 a0_1], .agg #[.slice A1_0 l1_0.length c1_0, .int .i64 a1_1]] w fun e w' => e = .returned (.bool r) ∧ Below w.heap.size w w' := by
 have hu61 := Try.underlying61
 have hu64 := Try.underlying64
 have HR0_0 := zm hr0_0
 have HC0_0 := zm hc0_0
 clear hr0_0 hc0_0
 have HR1_0 := zm hr1_0
 have HC1_0 := zm hc1_0
 clear hr1_0 hc1_0
 have HB := zm (Below.refl w.heap.size w)
 have H : ((laws_szTree.f l0_0 a0_1 1048576).bind fun t155 => (if t155 < 0 then (some true) else ((laws_szTree.f l1_0 a1_1 t155).bind fun t156 => (if t156 < 0 then (some true) else ((laws_toTree.f k l0_0 a0_1).bind fun bt157 => ((laws_toTree.f k l1_0 a1_1).bind fun bt161 => ((spec_Differ.f k bt157.1 bt157.2 bt161.1 bt161.2).bind fun t165 => ((laws_toTree.f k l0_0 a0_1).bind fun bt168 => ((laws_toTree.f k l1_0 a1_1).bind fun bt173 => ((impl_Differ.f k bt168.1 bt168.2 bt173.1 bt173.2).bind fun t178 => ((laws_eqIntS.f k t178 t165).bind fun t181 => (if t181 = true then ((laws_toTree.f k l0_0 a0_1).bind fun bt182 => ((laws_eqTree.f k bt168.1 bt168.2 bt182.1 bt182.2).bind fun t186 => (if t186 = true then ((laws_toTree.f k l1_0 a1_1).bind fun bt187 => ((laws_eqTree.f k bt173.1 bt173.2 bt187.1 bt187.2).bind fun t191 => (if t191 = true then ((laws_markTree.f k bt168.1 bt168.2 1).bind fun bt192 => ((laws_markTree.f k bt173.1 bt173.2 bt192.1).bind fun bt194 => (if bt194.1 < 0 then (laws_FnExactDiffer.j0 k t165 t178 true l0_0 a0_1 l1_0 a1_1) else ((laws_eqIntS.f k t178 t165).bind fun t196 => (laws_FnExactDiffer.j0 k t165 t178 (!t196) l0_0 a0_1 l1_0 a1_1))))) else (some false)))) else (some false)))) else (some false))))))))))))) = some r := h
 clear h
 replace H := Option.bind_eq_some_iff.mp H
 obtain ⟨t155, A30, H⟩ := H
 replace H : (if t155 < 0 then (some true) else ((laws_szTree.f l1_0 a1_1 t155).bind fun t156 => (if t156 < 0 then (some true) else ((laws_toTree.f k l0_0 a0_1).bind fun bt157 => ((laws_toTree.f k l1_0 a1_1).bind fun bt161 => ((spec_Differ.f k bt157.1 bt157.2 bt161.1 bt161.2).bind fun t165 => ((laws_toTree.f k l0_0 a0_1).bind fun bt168 => ((laws_toTree.f k l1_0 a1_1).bind fun bt173 => ((impl_Differ.f k bt168.1 bt168.2 bt173.1 bt173.2).bind fun t178 => ((laws_eqIntS.f k t178 t165).bind fun t181 => (if t181 = true then ((laws_toTree.f k l0_0 a0_1).bind fun bt182 => ((laws_eqTree.f k bt168.1 bt168.2 bt182.1 bt182.2).bind fun t186 => (if t186 = true then ((laws_toTree.f k l1_0 a1_1).bind fun bt187 => ((laws_eqTree.f k bt173.1 bt173.2 bt187.1 bt187.2).bind fun t191 => (if t191 = true then ((laws_markTree.f k bt168.1 bt168.2 1).bind fun bt192 => ((laws_markTree.f k bt173.1 bt173.2 bt192.1).bind fun bt194 => (if bt194.1 < 0 then (laws_FnExactDiffer.j0 k t165 t178 true l0_0 a0_1 l1_0 a1_1) else ((laws_eqIntS.f k t178 t165).bind fun t196 => (laws_FnExactDiffer.j0 k t165 t178 (!t196) l0_0 a0_1 l1_0 a1_1))))) else (some false)))) else (some false)))) else (some false)))))))))))) = some r := H
 have A3 := zm A30
 clear A30
 by_cases c4 : t155 < 0
 ·rw [if_pos c4] at H
  have c4b0 : decide (t155 < 0) = true := decide_eq_true c4
  clear c4
  obtain rfl := Option.some.inj H
  go_enter Try.func14, Try.ntmps14
  go_wp2_with (first | ((with_reducible refine gate_dst (N := 2) rfl ?_); refine zbox 2 #[.slice A0_0 l0_0.length c0_0, .int .i64 a0_1] 61 ?_; intro gb153 hg w5 hbox hb; have BK153 := zm (hbox); have GW153 := zge w hg zB; have GE153 := zge w hg zB; replace HB := zm (below_step zB hb); clear hb hbox hg) | ((with_reducible refine gate_dst (N := 3) rfl ?_); refine zbox 3 #[.slice A1_0 l1_0.length c1_0, .int .i64 a1_1] 61 ?_; intro gb154 hg w6 hbox hb; have BK154 := zm (hbox); have GW154 := zge w hg zB; have GE154 := zge w hg zB; replace HB := zm (below_step zB hb); have NB153_154 := zlt hg (zb BK153); have NB154_153 := zgt hg (zb BK153); replace BK153 := zm (blk_below (zb BK153) hb); clear hb hbox hg; have hnb7 := NB153_154.out; have hnc7 := NB154_153.out; have hcz8_0 : w6.cell? ⟨gb153, 0, none⟩ = some (.slice A0_0 l0_0.length c0_0) := (blk_cell BK153.out 0).trans rfl; have hcz8_1 : w6.cell? ⟨gb153, 1, none⟩ = some (.int .i64 a0_1) := (blk_cell BK153.out 1).trans rfl; have hfz8_0 := blk_frozen BK153.out 0; have hfz8_1 := blk_frozen BK153.out 1) | ((with_reducible refine gate_callee (f := 46) rfl ?_); refine zg #[.agg #[.slice A0_0 l0_0.length c0_0, .int .i64 a0_1], .int .i64 1048576] Try.func46 ?_; (with_reducible refine (laws_szTree.calls _ _ l0_0 a0_1 1048576 t155 _ (zk (Kd.C_below HR0_0.out HB.out)) HC0_0.out A3.out).mono ?_); rintro e w9 ⟨rfl, hb⟩; refine ⟨_, rfl, ?_⟩; replace BK153 := zm (blk_below (zb BK153) hb); replace BK154 := zm (blk_below (zb BK154) hb); replace HB := zm (below_step zB hb); clear hb))
  go_ret
  exact ⟨zE, zB⟩
 ·rw [if_neg c4] at H
  have c4b0 : decide (t155 < 0) = false := decide_eq_false c4
  clear c4
  replace H := Option.bind_eq_some_iff.mp H
  obtain ⟨t156, A100, H⟩ := H
  replace H : (if t156 < 0 then (some true) else ((laws_toTree.f k l0_0 a0_1).bind fun bt157 => ((laws_toTree.f k l1_0 a1_1).bind fun bt161 => ((spec_Differ.f k bt157.1 bt157.2 bt161.1 bt161.2).bind fun t165 => ((laws_toTree.f k l0_0 a0_1).bind fun bt168 => ((laws_toTree.f k l1_0 a1_1).bind fun bt173 => ((impl_Differ.f k bt168.1 bt168.2 bt173.1 bt173.2).bind fun t178 => ((laws_eqIntS.f k t178 t165).bind fun t181 => (if t181 = true then ((laws_toTree.f k l0_0 a0_1).bind fun bt182 => ((laws_eqTree.f k bt168.1 bt168.2 bt182.1 bt182.2).bind fun t186 => (if t186 = true then ((laws_toTree.f k l1_0 a1_1).bind fun bt187 => ((laws_eqTree.f k bt173.1 bt173.2 bt187.1 bt187.2).bind fun t191 => (if t191 = true then ((laws_markTree.f k bt168.1 bt168.2 1).bind fun bt192 => ((laws_markTree.f k bt173.1 bt173.2 bt192.1).bind fun bt194 => (if bt194.1 < 0 then (laws_FnExactDiffer.j0 k t165 t178 true l0_0 a0_1 l1_0 a1_1) else ((laws_eqIntS.f k t178 t165).bind fun t196 => (laws_FnExactDiffer.j0 k t165 t178 (!t196) l0_0 a0_1 l1_0 a1_1))))) else (some false)))) else (some false)))) else (some false)))))))))) = some r := H
  have A10 := zm A100
  clear A100
  by_cases c11 : t156 < 0
  ·rw [if_pos c11] at H
   have c11b0 : decide (t156 < 0) = true := decide_eq_true c11
   clear c11
   obtain rfl := Option.some.inj H
   go_enter Try.func14, Try.ntmps14
   go_wp2_with (first | ((with_reducible refine gate_dst (N := 2) rfl ?_); refine zbox 2 #[.slice A0_0 l0_0.length c0_0, .int .i64 a0_1] 61 ?_; intro gb153 hg w12 hbox hb; have BK153 := zm (hbox); have GW153 := zge w hg zB; have GE153 := zge w hg zB; replace HB := zm (below_step zB hb); clear hb hbox hg) | ((with_reducible refine gate_dst (N := 3) rfl ?_); refine zbox 3 #[.slice A1_0 l1_0.length c1_0, .int .i64 a1_1] 61 ?_; intro gb154 hg w13 hbox hb; have BK154 := zm (hbox); have GW154 := zge w hg zB; have GE154 := zge w hg zB; replace HB := zm (below_step zB hb); have NB153_154 := zlt hg (zb BK153); have NB154_153 := zgt hg (zb BK153); replace BK153 := zm (blk_below (zb BK153) hb); clear hb hbox hg; have hnb14 := NB153_154.out; have hnc14 := NB154_153.out; have hcz15_0 : w13.cell? ⟨gb153, 0, none⟩ = some (.slice A0_0 l0_0.length c0_0) := (blk_cell BK153.out 0).trans rfl; have hcz15_1 : w13.cell? ⟨gb153, 1, none⟩ = some (.int .i64 a0_1) := (blk_cell BK153.out 1).trans rfl; have hfz15_0 := blk_frozen BK153.out 0; have hfz15_1 := blk_frozen BK153.out 1) | ((with_reducible refine gate_callee (f := 46) rfl ?_); refine zg #[.agg #[.slice A0_0 l0_0.length c0_0, .int .i64 a0_1], .int .i64 1048576] Try.func46 ?_; (with_reducible refine (laws_szTree.calls _ _ l0_0 a0_1 1048576 t155 _ (zk (Kd.C_below HR0_0.out HB.out)) HC0_0.out A3.out).mono ?_); rintro e w16 ⟨rfl, hb⟩; refine ⟨_, rfl, ?_⟩; replace BK153 := zm (blk_below (zb BK153) hb); replace BK154 := zm (blk_below (zb BK154) hb); replace HB := zm (below_step zB hb); clear hb; have hcz17_0 : w16.cell? ⟨gb154, 0, none⟩ = some (.slice A1_0 l1_0.length c1_0) := (blk_cell BK154.out 0).trans rfl; have hcz17_1 : w16.cell? ⟨gb154, 1, none⟩ = some (.int .i64 a1_1) := (blk_cell BK154.out 1).trans rfl; have hfz17_0 := blk_frozen BK154.out 0; have hfz17_1 := blk_frozen BK154.out 1) | ((with_reducible refine gate_callee (f := 46) rfl ?_); refine zg #[.agg #[.slice A1_0 l1_0.length c1_0, .int .i64 a1_1], .int .i64 t155] Try.func46 ?_; (with_reducible refine (laws_szTree.calls _ _ l1_0 a1_1 t155 t156 _ (zk (Kd.C_below HR1_0.out HB.out)) HC1_0.out A10.out).mono ?_); rintro e w18 ⟨rfl, hb⟩; refine ⟨_, rfl, ?_⟩; replace BK153 := zm (blk_below (zb BK153) hb); replace BK154 := zm (blk_below (zb BK154) hb); replace HB := zm (below_step zB hb); clear hb))
   go_ret
   exact ⟨zE, zB⟩
  ·rw [if_neg c11] at H
   have c11b0 : decide (t156 < 0) = false := decide_eq_false c11
   clear c11
   replace H := Option.bind_eq_some_iff.mp H
   obtain ⟨⟨t157, t160⟩, A190, H⟩ := H
   replace H : ((laws_toTree.f k l1_0 a1_1).bind fun bt161 => ((spec_Differ.f k t157 t160 bt161.1 bt161.2).bind fun t165 => ((laws_toTree.f k l0_0 a0_1).bind fun bt168 => ((laws_toTree.f k l1_0 a1_1).bind fun bt173 => ((impl_Differ.f k bt168.1 bt168.2 bt173.1 bt173.2).bind fun t178 => ((laws_eqIntS.f k t178 t165).bind fun t181 => (if t181 = true then ((laws_toTree.f k l0_0 a0_1).bind fun bt182 => ((laws_eqTree.f k bt168.1 bt168.2 bt182.1 bt182.2).bind fun t186 => (if t186 = true then ((laws_toTree.f k l1_0 a1_1).bind fun bt187 => ((laws_eqTree.f k bt173.1 bt173.2 bt187.1 bt187.2).bind fun t191 => (if t191 = true then ((laws_markTree.f k bt168.1 bt168.2 1).bind fun bt192 => ((laws_markTree.f k bt173.1 bt173.2 bt192.1).bind fun bt194 => (if bt194.1 < 0 then (laws_FnExactDiffer.j0 k t165 t178 true l0_0 a0_1 l1_0 a1_1) else ((laws_eqIntS.f k t178 t165).bind fun t196 => (laws_FnExactDiffer.j0 k t165 t178 (!t196) l0_0 a0_1 l1_0 a1_1))))) else (some false)))) else (some false)))) else (some false)))))))) = some r := H
   have A19 := zm A190
   clear A190
   replace H := Option.bind_eq_some_iff.mp H
   obtain ⟨⟨t161, t164⟩, A200, H⟩ := H
   replace H : ((spec_Differ.f k t157 t160 t161 t164).bind fun t165 => ((laws_toTree.f k l0_0 a0_1).bind fun bt168 => ((laws_toTree.f k l1_0 a1_1).bind fun bt173 => ((impl_Differ.f k bt168.1 bt168.2 bt173.1 bt173.2).bind fun t178 => ((laws_eqIntS.f k t178 t165).bind fun t181 => (if t181 = true then ((laws_toTree.f k l0_0 a0_1).bind fun bt182 => ((laws_eqTree.f k bt168.1 bt168.2 bt182.1 bt182.2).bind fun t186 => (if t186 = true then ((laws_toTree.f k l1_0 a1_1).bind fun bt187 => ((laws_eqTree.f k bt173.1 bt173.2 bt187.1 bt187.2).bind fun t191 => (if t191 = true then ((laws_markTree.f k bt168.1 bt168.2 1).bind fun bt192 => ((laws_markTree.f k bt173.1 bt173.2 bt192.1).bind fun bt194 => (if bt194.1 < 0 then (laws_FnExactDiffer.j0 k t165 t178 true l0_0 a0_1 l1_0 a1_1) else ((laws_eqIntS.f k t178 t165).bind fun t196 => (laws_FnExactDiffer.j0 k t165 t178 (!t196) l0_0 a0_1 l1_0 a1_1))))) else (some false)))) else (some false)))) else (some false))))))) = some r := H
   have A20 := zm A200
   clear A200
   replace H := Option.bind_eq_some_iff.mp H
   obtain ⟨t165, A210, H⟩ := H
   replace H : ((laws_toTree.f k l0_0 a0_1).bind fun bt168 => ((laws_toTree.f k l1_0 a1_1).bind fun bt173 => ((impl_Differ.f k bt168.1 bt168.2 bt173.1 bt173.2).bind fun t178 => ((laws_eqIntS.f k t178 t165).bind fun t181 => (if t181 = true then ((laws_toTree.f k l0_0 a0_1).bind fun bt182 => ((laws_eqTree.f k bt168.1 bt168.2 bt182.1 bt182.2).bind fun t186 => (if t186 = true then ((laws_toTree.f k l1_0 a1_1).bind fun bt187 => ((laws_eqTree.f k bt173.1 bt173.2 bt187.1 bt187.2).bind fun t191 => (if t191 = true then ((laws_markTree.f k bt168.1 bt168.2 1).bind fun bt192 => ((laws_markTree.f k bt173.1 bt173.2 bt192.1).bind fun bt194 => (if bt194.1 < 0 then (laws_FnExactDiffer.j0 k t165 t178 true l0_0 a0_1 l1_0 a1_1) else ((laws_eqIntS.f k t178 t165).bind fun t196 => (laws_FnExactDiffer.j0 k t165 t178 (!t196) l0_0 a0_1 l1_0 a1_1))))) else (some false)))) else (some false)))) else (some false)))))) = some r := H
   have A21 := zm A210
   clear A210
   replace H := Option.bind_eq_some_iff.mp H
   obtain ⟨⟨t168, t171⟩, A220, H⟩ := H
   replace H : ((laws_toTree.f k l1_0 a1_1).bind fun bt173 => ((impl_Differ.f k t168 t171 bt173.1 bt173.2).bind fun t178 => ((laws_eqIntS.f k t178 t165).bind fun t181 => (if t181 = true then ((laws_toTree.f k l0_0 a0_1).bind fun bt182 => ((laws_eqTree.f k t168 t171 bt182.1 bt182.2).bind fun t186 => (if t186 = true then ((laws_toTree.f k l1_0 a1_1).bind fun bt187 => ((laws_eqTree.f k bt173.1 bt173.2 bt187.1 bt187.2).bind fun t191 => (if t191 = true then ((laws_markTree.f k t168 t171 1).bind fun bt192 => ((laws_markTree.f k bt173.1 bt173.2 bt192.1).bind fun bt194 => (if bt194.1 < 0 then (laws_FnExactDiffer.j0 k t165 t178 true l0_0 a0_1 l1_0 a1_1) else ((laws_eqIntS.f k t178 t165).bind fun t196 => (laws_FnExactDiffer.j0 k t165 t178 (!t196) l0_0 a0_1 l1_0 a1_1))))) else (some false)))) else (some false)))) else (some false))))) = some r := H
   have A22 := zm A220
   clear A220
   replace H := Option.bind_eq_some_iff.mp H
   obtain ⟨⟨t173, t176⟩, A230, H⟩ := H
   replace H : ((impl_Differ.f k t168 t171 t173 t176).bind fun t178 => ((laws_eqIntS.f k t178 t165).bind fun t181 => (if t181 = true then ((laws_toTree.f k l0_0 a0_1).bind fun bt182 => ((laws_eqTree.f k t168 t171 bt182.1 bt182.2).bind fun t186 => (if t186 = true then ((laws_toTree.f k l1_0 a1_1).bind fun bt187 => ((laws_eqTree.f k t173 t176 bt187.1 bt187.2).bind fun t191 => (if t191 = true then ((laws_markTree.f k t168 t171 1).bind fun bt192 => ((laws_markTree.f k t173 t176 bt192.1).bind fun bt194 => (if bt194.1 < 0 then (laws_FnExactDiffer.j0 k t165 t178 true l0_0 a0_1 l1_0 a1_1) else ((laws_eqIntS.f k t178 t165).bind fun t196 => (laws_FnExactDiffer.j0 k t165 t178 (!t196) l0_0 a0_1 l1_0 a1_1))))) else (some false)))) else (some false)))) else (some false)))) = some r := H
   have A23 := zm A230
   clear A230
   replace H := Option.bind_eq_some_iff.mp H
   obtain ⟨t178, A240, H⟩ := H
   replace H : ((laws_eqIntS.f k t178 t165).bind fun t181 => (if t181 = true then ((laws_toTree.f k l0_0 a0_1).bind fun bt182 => ((laws_eqTree.f k t168 t171 bt182.1 bt182.2).bind fun t186 => (if t186 = true then ((laws_toTree.f k l1_0 a1_1).bind fun bt187 => ((laws_eqTree.f k t173 t176 bt187.1 bt187.2).bind fun t191 => (if t191 = true then ((laws_markTree.f k t168 t171 1).bind fun bt192 => ((laws_markTree.f k t173 t176 bt192.1).bind fun bt194 => (if bt194.1 < 0 then (laws_FnExactDiffer.j0 k t165 t178 true l0_0 a0_1 l1_0 a1_1) else ((laws_eqIntS.f k t178 t165).bind fun t196 => (laws_FnExactDiffer.j0 k t165 t178 (!t196) l0_0 a0_1 l1_0 a1_1))))) else (some false)))) else (some false)))) else (some false))) = some r := H
   have A24 := zm A240
   clear A240
   replace H := Option.bind_eq_some_iff.mp H
   obtain ⟨t181, A250, H⟩ := H
   replace H : (if t181 = true then ((laws_toTree.f k l0_0 a0_1).bind fun bt182 => ((laws_eqTree.f k t168 t171 bt182.1 bt182.2).bind fun t186 => (if t186 = true then ((laws_toTree.f k l1_0 a1_1).bind fun bt187 => ((laws_eqTree.f k t173 t176 bt187.1 bt187.2).bind fun t191 => (if t191 = true then ((laws_markTree.f k t168 t171 1).bind fun bt192 => ((laws_markTree.f k t173 t176 bt192.1).bind fun bt194 => (if bt194.1 < 0 then (laws_FnExactDiffer.j0 k t165 t178 true l0_0 a0_1 l1_0 a1_1) else ((laws_eqIntS.f k t178 t165).bind fun t196 => (laws_FnExactDiffer.j0 k t165 t178 (!t196) l0_0 a0_1 l1_0 a1_1))))) else (some false)))) else (some false)))) else (some false)) = some r := H
   have A25 := zm A250
   clear A250
   by_cases c26 : t181 = true
   ·subst c26
    have H1 : ((laws_toTree.f k l0_0 a0_1).bind fun bt182 => ((laws_eqTree.f k t168 t171 bt182.1 bt182.2).bind fun t186 => (if t186 = true then ((laws_toTree.f k l1_0 a1_1).bind fun bt187 => ((laws_eqTree.f k t173 t176 bt187.1 bt187.2).bind fun t191 => (if t191 = true then ((laws_markTree.f k t168 t171 1).bind fun bt192 => ((laws_markTree.f k t173 t176 bt192.1).bind fun bt194 => (if bt194.1 < 0 then (laws_FnExactDiffer.j0 k t165 t178 true l0_0 a0_1 l1_0 a1_1) else ((laws_eqIntS.f k t178 t165).bind fun t196 => (laws_FnExactDiffer.j0 k t165 t178 (!t196) l0_0 a0_1 l1_0 a1_1))))) else (some false)))) else (some false)))) = some r := by rw [if_pos rfl] at H; exact H
    clear H
    have H := H1
    clear H1
    replace H := Option.bind_eq_some_iff.mp H
    obtain ⟨⟨t182, t185⟩, A270, H⟩ := H
    replace H : ((laws_eqTree.f k t168 t171 t182 t185).bind fun t186 => (if t186 = true then ((laws_toTree.f k l1_0 a1_1).bind fun bt187 => ((laws_eqTree.f k t173 t176 bt187.1 bt187.2).bind fun t191 => (if t191 = true then ((laws_markTree.f k t168 t171 1).bind fun bt192 => ((laws_markTree.f k t173 t176 bt192.1).bind fun bt194 => (if bt194.1 < 0 then (laws_FnExactDiffer.j0 k t165 t178 true l0_0 a0_1 l1_0 a1_1) else ((laws_eqIntS.f k t178 t165).bind fun t196 => (laws_FnExactDiffer.j0 k t165 t178 (!t196) l0_0 a0_1 l1_0 a1_1))))) else (some false)))) else (some false))) = some r := H
    have A27 := zm A270
    clear A270
    replace H := Option.bind_eq_some_iff.mp H
    obtain ⟨t186, A280, H⟩ := H
    replace H : (if t186 = true then ((laws_toTree.f k l1_0 a1_1).bind fun bt187 => ((laws_eqTree.f k t173 t176 bt187.1 bt187.2).bind fun t191 => (if t191 = true then ((laws_markTree.f k t168 t171 1).bind fun bt192 => ((laws_markTree.f k t173 t176 bt192.1).bind fun bt194 => (if bt194.1 < 0 then (laws_FnExactDiffer.j0 k t165 t178 true l0_0 a0_1 l1_0 a1_1) else ((laws_eqIntS.f k t178 t165).bind fun t196 => (laws_FnExactDiffer.j0 k t165 t178 (!t196) l0_0 a0_1 l1_0 a1_1))))) else (some false)))) else (some false)) = some r := H
    have A28 := zm A280
    clear A280
    by_cases c29 : t186 = true
    ·subst c29
     have H1 : ((laws_toTree.f k l1_0 a1_1).bind fun bt187 => ((laws_eqTree.f k t173 t176 bt187.1 bt187.2).bind fun t191 => (if t191 = true then ((laws_markTree.f k t168 t171 1).bind fun bt192 => ((laws_markTree.f k t173 t176 bt192.1).bind fun bt194 => (if bt194.1 < 0 then (laws_FnExactDiffer.j0 k t165 t178 true l0_0 a0_1 l1_0 a1_1) else ((laws_eqIntS.f k t178 t165).bind fun t196 => (laws_FnExactDiffer.j0 k t165 t178 (!t196) l0_0 a0_1 l1_0 a1_1))))) else (some false)))) = some r := by rw [if_pos rfl] at H; exact H
     clear H
     have H := H1
     clear H1
     replace H := Option.bind_eq_some_iff.mp H
     obtain ⟨⟨t187, t190⟩, A300, H⟩ := H
     replace H : ((laws_eqTree.f k t173 t176 t187 t190).bind fun t191 => (if t191 = true then ((laws_markTree.f k t168 t171 1).bind fun bt192 => ((laws_markTree.f k t173 t176 bt192.1).bind fun bt194 => (if bt194.1 < 0 then (laws_FnExactDiffer.j0 k t165 t178 true l0_0 a0_1 l1_0 a1_1) else ((laws_eqIntS.f k t178 t165).bind fun t196 => (laws_FnExactDiffer.j0 k t165 t178 (!t196) l0_0 a0_1 l1_0 a1_1))))) else (some false))) = some r := H
     have A30 := zm A300
     clear A300
     replace H := Option.bind_eq_some_iff.mp H
     obtain ⟨t191, A310, H⟩ := H
     replace H : (if t191 = true then ((laws_markTree.f k t168 t171 1).bind fun bt192 => ((laws_markTree.f k t173 t176 bt192.1).bind fun bt194 => (if bt194.1 < 0 then (laws_FnExactDiffer.j0 k t165 t178 true l0_0 a0_1 l1_0 a1_1) else ((laws_eqIntS.f k t178 t165).bind fun t196 => (laws_FnExactDiffer.j0 k t165 t178 (!t196) l0_0 a0_1 l1_0 a1_1))))) else (some false)) = some r := H
     have A31 := zm A310
     clear A310
     by_cases c32 : t191 = true
     ·subst c32
      have H1 : ((laws_markTree.f k t168 t171 1).bind fun bt192 => ((laws_markTree.f k t173 t176 bt192.1).bind fun bt194 => (if bt194.1 < 0 then (laws_FnExactDiffer.j0 k t165 t178 true l0_0 a0_1 l1_0 a1_1) else ((laws_eqIntS.f k t178 t165).bind fun t196 => (laws_FnExactDiffer.j0 k t165 t178 (!t196) l0_0 a0_1 l1_0 a1_1))))) = some r := by rw [if_pos rfl] at H; exact H
      clear H
      have H := H1
      clear H1
      replace H := Option.bind_eq_some_iff.mp H
      obtain ⟨⟨t192, t193⟩, A330, H⟩ := H
      replace H : ((laws_markTree.f k t173 t176 t192).bind fun bt194 => (if bt194.1 < 0 then (laws_FnExactDiffer.j0 k t165 t178 true l0_0 a0_1 l1_0 a1_1) else ((laws_eqIntS.f k t178 t165).bind fun t196 => (laws_FnExactDiffer.j0 k t165 t178 (!t196) l0_0 a0_1 l1_0 a1_1)))) = some r := H
      have A33 := zm A330
      clear A330
      replace H := Option.bind_eq_some_iff.mp H
      obtain ⟨⟨t194, t195⟩, A340, H⟩ := H
      replace H : (if t194 < 0 then (laws_FnExactDiffer.j0 k t165 t178 true l0_0 a0_1 l1_0 a1_1) else ((laws_eqIntS.f k t178 t165).bind fun t196 => (laws_FnExactDiffer.j0 k t165 t178 (!t196) l0_0 a0_1 l1_0 a1_1))) = some r := H
      have A34 := zm A340
      clear A340
      have HC35 := zm H
      clear H
      go_enter Try.func14, Try.ntmps14
      try go_wp2_with (first | ((with_reducible refine gate_dst (N := 2) rfl ?_); refine zbox 2 #[.slice A0_0 l0_0.length c0_0, .int .i64 a0_1] 61 ?_; intro gb153 hg w36 hbox hb; have BK153 := zm (hbox); have GW153 := zge w hg zB; have GE153 := zge w hg zB; replace HB := zm (below_step zB hb); clear hb hbox hg) | ((with_reducible refine gate_dst (N := 3) rfl ?_); refine zbox 3 #[.slice A1_0 l1_0.length c1_0, .int .i64 a1_1] 61 ?_; intro gb154 hg w37 hbox hb; have BK154 := zm (hbox); have GW154 := zge w hg zB; have GE154 := zge w hg zB; replace HB := zm (below_step zB hb); have NB153_154 := zlt hg (zb BK153); have NB154_153 := zgt hg (zb BK153); replace BK153 := zm (blk_below (zb BK153) hb); clear hb hbox hg; have hnb38 := NB153_154.out; have hnc38 := NB154_153.out; have hcz39_0 : w37.cell? ⟨gb153, 0, none⟩ = some (.slice A0_0 l0_0.length c0_0) := (blk_cell BK153.out 0).trans rfl; have hcz39_1 : w37.cell? ⟨gb153, 1, none⟩ = some (.int .i64 a0_1) := (blk_cell BK153.out 1).trans rfl; have hfz39_0 := blk_frozen BK153.out 0; have hfz39_1 := blk_frozen BK153.out 1) | ((with_reducible refine gate_callee (f := 46) rfl ?_); refine zg #[.agg #[.slice A0_0 l0_0.length c0_0, .int .i64 a0_1], .int .i64 1048576] Try.func46 ?_; (with_reducible refine (laws_szTree.calls _ _ l0_0 a0_1 1048576 t155 _ (zk (Kd.C_below HR0_0.out HB.out)) HC0_0.out A3.out).mono ?_); rintro e w40 ⟨rfl, hb⟩; refine ⟨_, rfl, ?_⟩; replace BK153 := zm (blk_below (zb BK153) hb); replace BK154 := zm (blk_below (zb BK154) hb); replace HB := zm (below_step zB hb); clear hb; have hcz41_0 : w40.cell? ⟨gb154, 0, none⟩ = some (.slice A1_0 l1_0.length c1_0) := (blk_cell BK154.out 0).trans rfl; have hcz41_1 : w40.cell? ⟨gb154, 1, none⟩ = some (.int .i64 a1_1) := (blk_cell BK154.out 1).trans rfl; have hfz41_0 := blk_frozen BK154.out 0; have hfz41_1 := blk_frozen BK154.out 1) | ((with_reducible refine gate_callee (f := 46) rfl ?_); refine zg #[.agg #[.slice A1_0 l1_0.length c1_0, .int .i64 a1_1], .int .i64 t155] Try.func46 ?_; (with_reducible refine (laws_szTree.calls _ _ l1_0 a1_1 t155 t156 _ (zk (Kd.C_below HR1_0.out HB.out)) HC1_0.out A10.out).mono ?_); rintro e w42 ⟨rfl, hb⟩; refine ⟨_, rfl, ?_⟩; replace BK153 := zm (blk_below (zb BK153) hb); replace BK154 := zm (blk_below (zb BK154) hb); replace HB := zm (below_step zB hb); clear hb))
      replace BK153 := zm (blk_drew BK153.out)
      replace BK154 := zm (blk_drew BK154.out)
      replace HB := zm (below_drew1 HB.out)
      refine start_ (n := 6) (S := fun w' => w'.cell? ⟨gb153, 0, none⟩ = some (.slice A0_0 l0_0.length c0_0) ∧ w'.cell? ⟨gb153, 1, none⟩ = some (.int .i64 a0_1) ∧ w'.cell? ⟨gb154, 0, none⟩ = some (.slice A1_0 l1_0.length c1_0) ∧ w'.cell? ⟨gb154, 1, none⟩ = some (.int .i64 a1_1)) (ds := []) (zl 6 0) (by kernel_rfl) rfl rfl ⟨(blk_cell BK153.out 0).trans rfl, (blk_cell BK153.out 1).trans rfl, (blk_cell BK154.out 0).trans rfl, (blk_cell BK154.out 1).trans rfl⟩ (fun hHeld => ?_)
      generalize w42.drew = w43 at BK153 BK154 HB hHeld ⊢
      refine zt 0 (some 24) (zl 6 1) ?_
      refine zt 2 (some 26) (zl 6 5) ?_
      refine zo 1 (some 25) (zl 6 7) (fun K hK => ?_)
      refine zgo #[.agg #[.slice A0_0 l0_0.length c0_0, .int .i64 a0_1]] Try.func48 ?_
      with_reducible refine (laws_toTree.calls k _ _ l0_0 a0_1 t157 t160 _ (zk (Kd.C_below HR0_0.out HB.out)) HC0_0.out A19.out).mono ?_
      rintro e w44 ⟨v158, rfl, ho0, hb⟩
      refine ⟨_, rfl, ?_⟩
      have HO159 := zm (Kd.R_lower ho0 (below_size zB))
      replace BK153 := zm (blk_below (zb BK153) hb)
      replace BK154 := zm (blk_below (zb BK154) hb)
      replace HB := zm (below_step zB hb)
      (try clear hb)
      (try clear hb2)
      (try clear hk)
      (try clear hi)
      (try clear ho0)
      refine hK.out _ _ ⟨(blk_cell BK153.out 0).trans rfl, (blk_cell BK153.out 1).trans rfl, (blk_cell BK154.out 0).trans rfl, (blk_cell BK154.out 1).trans rfl⟩ (fun hHeld => ?_)
      clear hK K
      refine zn ?_
      refine zo 3 (some 27) (zl 6 15) (fun K hK => ?_)
      refine zgo #[.agg #[.slice A1_0 l1_0.length c1_0, .int .i64 a1_1]] Try.func48 ?_
      with_reducible refine (laws_toTree.calls k _ _ l1_0 a1_1 t161 t164 _ (zk (Kd.C_below HR1_0.out HB.out)) HC1_0.out A20.out).mono ?_
      rintro e w45 ⟨v162, rfl, ho0, hb⟩
      refine ⟨_, rfl, ?_⟩
      have HO163 := zm (Kd.R_lower (Kd.R_new' ho0 (Kd.R_lt (zr HO159))) (below_size zB))
      replace HO159 := zm (Kd.R_elder' (zr HO159) (Kd.R_base ho0) hb)
      replace BK153 := zm (blk_below (zb BK153) hb)
      replace BK154 := zm (blk_below (zb BK154) hb)
      replace HB := zm (below_step zB hb)
      (try clear hb)
      (try clear hb2)
      (try clear hk)
      (try clear hi)
      (try clear ho0)
      obtain ⟨Ao46, co46, eo46⟩ := Kd.R_slice HO159.out
      (first | subst eo46 | (injection eo46 with f1_ f2_ f3_; have f4_ := f1_.symm; have f5_ := f3_.symm; clear f1_ f2_ f3_; subst f4_; subst f5_))
      obtain ⟨Ao47, co47, eo47⟩ := Kd.R_slice HO163.out
      (first | subst eo47 | (injection eo47 with f1_ f2_ f3_; have f4_ := f1_.symm; have f5_ := f3_.symm; clear f1_ f2_ f3_; subst f4_; subst f5_))
      refine hK.out _ _ ⟨(blk_cell BK153.out 0).trans rfl, (blk_cell BK153.out 1).trans rfl, (blk_cell BK154.out 0).trans rfl, (blk_cell BK154.out 1).trans rfl⟩ (fun hHeld => ?_)
      clear hK K
      refine zn ?_
      refine zo 4 (some 28) (zl 6 31) (fun K hK => ?_)
      refine zgo #[.agg #[.slice Ao46 t157.length co46, .int .i64 t160], .agg #[.slice Ao47 t161.length co47, .int .i64 t164]] Try.func47 ?_
      with_reducible refine (spec_Differ.calls k _ _ t157 t160 _ _ t161 t164 t165 _ ?side1 ?side2 ?side3 ?side4 A21.out).mono ?_
      (case side1 => repeat (first | exact (Kd.R_reads' HO159.out).2.2 | (with_reducible refine Kd.C_alloc ?_ _) | (with_reducible refine Kd.C_drewN ?_ _) | (with_reducible refine Kd.C_drew ?_)))
      (case side2 => exact (Kd.R_reads' HO159.out).2.1)
      (case side3 => repeat (first | exact (Kd.R_reads' HO163.out).2.2 | (with_reducible refine Kd.C_alloc ?_ _) | (with_reducible refine Kd.C_drewN ?_ _) | (with_reducible refine Kd.C_drew ?_)))
      (case side4 => exact (Kd.R_reads' HO163.out).2.1)
      rintro e w48 ⟨v166, rfl, ho0, hb⟩
      refine ⟨_, rfl, ?_⟩
      have HO167 := zm (Kd.R_lower (Kd.R_new' (Kd.R_new' ho0 (Kd.R_lt (zr HO159))) (Kd.R_lt (zr HO163))) (below_size zB))
      replace HO159 := zm (Kd.R_elder' (zr HO159) (Kd.R_base ho0) hb)
      replace HO163 := zm (Kd.R_elder' (zr HO163) (Kd.R_base ho0) hb)
      replace BK153 := zm (blk_below (zb BK153) hb)
      replace BK154 := zm (blk_below (zb BK154) hb)
      replace HB := zm (below_step zB hb)
      (try clear hb)
      (try clear hb2)
      (try clear hk)
      (try clear hi)
      (try clear ho0)
      refine hK.out _ _ ⟨(blk_cell BK153.out 0).trans rfl, (blk_cell BK153.out 1).trans rfl, (blk_cell BK154.out 0).trans rfl, (blk_cell BK154.out 1).trans rfl⟩ (fun hHeld => ?_)
      clear hK K
      refine zn ?_
      refine zp 5 (some 6) (zl 6 63) ?_
      refine done_ (by kernel_rfl) ?_
      have hcz49_0 : w48.cell? ⟨gb153, 0, none⟩ = some (.slice A0_0 l0_0.length c0_0) := (blk_cell BK153.out 0).trans rfl
      have hcz49_1 : w48.cell? ⟨gb153, 1, none⟩ = some (.int .i64 a0_1) := (blk_cell BK153.out 1).trans rfl
      have hfz49_0 := blk_frozen BK153.out 0
      have hfz49_1 := blk_frozen BK153.out 1
      try go_wp2_with (first | ((with_reducible refine gate_callee (f := 48) rfl ?_); refine zg #[.agg #[.slice A0_0 l0_0.length c0_0, .int .i64 a0_1]] Try.func48 ?_; (with_reducible refine (laws_toTree.calls k _ _ l0_0 a0_1 t168 t171 _ (zk (Kd.C_below HR0_0.out HB.out)) HC0_0.out A22.out).mono ?_); rintro e w50 ⟨v169, rfl, ho0, hb⟩; refine ⟨_, rfl, ?_⟩; have HO170 := zm (Kd.R_lower (Kd.R_new' (Kd.R_new' (Kd.R_new' ho0 (Kd.R_lt (zr HO159))) (Kd.R_lt (zr HO163))) (Kd.R_lt (zr HO167))) (below_size zB)); replace HO159 := zm (Kd.R_elder' (zr HO159) (Kd.R_base ho0) hb); replace HO163 := zm (Kd.R_elder' (zr HO163) (Kd.R_base ho0) hb); replace HO167 := zm (Kd.R_elder' (zr HO167) (Kd.R_base ho0) hb); replace BK153 := zm (blk_below (zb BK153) hb); replace BK154 := zm (blk_below (zb BK154) hb); replace HB := zm (below_step zB hb); clear hb ho0) | ((with_reducible refine gate_dst (N := 7) rfl ?_); refine zbox 7 #[.slice none 0 0, .int .i64 0] 64 ?_; intro gb172 hg w51 hbox hb; replace HO159 := zm (Kd.R_below (zr HO159) hb); replace HO163 := zm (Kd.R_below (zr HO163) hb); replace HO167 := zm (Kd.R_below (zr HO167) hb); replace HO170 := zm (Kd.R_below (zr HO170) hb); have BK172 := zm (hbox); have GW172 := zge w hg zB; have GE172 := zge w hg zB; replace HB := zm (below_step zB hb); have NB153_172 := zlt hg (zb BK153); have NB172_153 := zgt hg (zb BK153); replace BK153 := zm (blk_below (zb BK153) hb); have NB154_172 := zlt hg (zb BK154); have NB172_154 := zgt hg (zb BK154); replace BK154 := zm (blk_below (zb BK154) hb); clear hb hbox hg; obtain ⟨Ao52, co52, eo52⟩ := Kd.R_slice HO170.out; subst eo52; have hnb53 := NB172_153.out; have hnc53 := NB153_172.out; have hnb54 := NB172_154.out; have hnc54 := NB154_172.out; have hcz55_0 : w51.cell? ⟨gb172, 0, none⟩ = some (.slice none 0 0) := (blk_cell BK172.out 0).trans rfl; have hcz55_1 : w51.cell? ⟨gb172, 1, none⟩ = some (.int .i64 0) := (blk_cell BK172.out 1).trans rfl; have hfz55_0 := blk_frozen BK172.out 0; have hfz55_1 := blk_frozen BK172.out 1; have hcz56_0 : w51.cell? ⟨gb154, 0, none⟩ = some (.slice A1_0 l1_0.length c1_0) := (blk_cell BK154.out 0).trans rfl; have hcz56_1 : w51.cell? ⟨gb154, 1, none⟩ = some (.int .i64 a1_1) := (blk_cell BK154.out 1).trans rfl; have hfz56_0 := blk_frozen BK154.out 0; have hfz56_1 := blk_frozen BK154.out 1) | ((with_reducible refine gate_callee (f := 48) rfl ?_); refine zg #[.agg #[.slice A1_0 l1_0.length c1_0, .int .i64 a1_1]] Try.func48 ?_; (with_reducible refine (laws_toTree.calls k _ _ l1_0 a1_1 t173 t176 _ ?side1 HC1_0.out A23.out).mono ?_); (case side1 => exact Kd.C_below HR1_0.out zB); rintro e w57 ⟨v174, rfl, ho0, hb⟩; refine ⟨_, rfl, ?_⟩; have HO175 := zm (Kd.R_lower (Kd.R_new' (Kd.R_new' (Kd.R_new' (Kd.R_new' ho0 (Kd.R_lt (zrs <| (Kd.R_mono (zfr (zfr (Kd.R_types HO159.out BK172.out (by decide)))) (fun _ h_ => h_.1))))) (Kd.R_lt (zrs <| (Kd.R_mono (zfr (zfr (Kd.R_types HO163.out BK172.out (by decide)))) (fun _ h_ => h_.1))))) (Kd.R_lt (zrs <| (Kd.R_mono (zfr (zfr (Kd.R_types HO167.out BK172.out (by decide)))) (fun _ h_ => h_.1))))) (Kd.R_lt (zrs <| (Kd.R_mono (zfr (zfr (Kd.R_types HO170.out BK172.out (by decide)))) (fun _ h_ => h_.1))))) (below_size zB)); replace HO159 := zm (Kd.R_elder' (zrs <| (Kd.R_mono (zfr (zfr (Kd.R_types HO159.out BK172.out (by decide)))) (fun _ h_ => h_.1))) (Kd.R_base ho0) hb); replace HO163 := zm (Kd.R_elder' (zrs <| (Kd.R_mono (zfr (zfr (Kd.R_types HO163.out BK172.out (by decide)))) (fun _ h_ => h_.1))) (Kd.R_base ho0) hb); replace HO167 := zm (Kd.R_elder' (zrs <| (Kd.R_mono (zfr (zfr (Kd.R_types HO167.out BK172.out (by decide)))) (fun _ h_ => h_.1))) (Kd.R_base ho0) hb); replace HO170 := zm (Kd.R_elder' (zrs <| (Kd.R_mono (zfr (zfr (Kd.R_types HO170.out BK172.out (by decide)))) (fun _ h_ => h_.1))) (Kd.R_base ho0) hb); replace BK153 := zm (blk_below (g := gb153) (o := .cells #[.slice A0_0 l0_0.length c0_0, .int .i64 a0_1] 61 (0, 0)) (zfar (zfar (zb BK153) NB153_172) NB153_172) hb); replace BK154 := zm (blk_below (g := gb154) (o := .cells #[.slice A1_0 l1_0.length c1_0, .int .i64 a1_1] 61 (0, 0)) (zfar (zfar (zb BK154) NB154_172) NB154_172) hb); replace BK172 := zm (blk_below (g := gb172) (o := .cells #[.slice Ao52 t168.length co52, .int .i64 t171] 64 (0, 0)) (zput (zput (zb BK172) 0) 1) hb); replace HB := zm (below_step zB hb); clear hb ho0) | ((with_reducible refine gate_dst (N := 8) rfl ?_); refine zbox 8 #[.slice none 0 0, .int .i64 0] 64 ?_; intro gb177 hg w58 hbox hb; replace HO159 := zm (Kd.R_below (zr HO159) hb); replace HO163 := zm (Kd.R_below (zr HO163) hb); replace HO167 := zm (Kd.R_below (zr HO167) hb); replace HO170 := zm (Kd.R_below (zr HO170) hb); replace HO175 := zm (Kd.R_below (zr HO175) hb); have BK177 := zm (hbox); have GW177 := zge w hg zB; have GE177 := zge w hg zB; replace HB := zm (below_step zB hb); have NB153_177 := zlt hg (zb BK153); have NB177_153 := zgt hg (zb BK153); replace BK153 := zm (blk_below (zb BK153) hb); have NB154_177 := zlt hg (zb BK154); have NB177_154 := zgt hg (zb BK154); replace BK154 := zm (blk_below (zb BK154) hb); have NB172_177 := zlt hg (zb BK172); have NB177_172 := zgt hg (zb BK172); replace BK172 := zm (blk_below (zb BK172) hb); clear hb hbox hg; obtain ⟨Ao59, co59, eo59⟩ := Kd.R_slice HO175.out; subst eo59; have hnb60 := NB177_153.out; have hnc60 := NB153_177.out; have hnb61 := NB177_154.out; have hnc61 := NB154_177.out; have hnb62 := NB177_172.out; have hnc62 := NB172_177.out; have hcz63_0 : w58.cell? ⟨gb177, 0, none⟩ = some (.slice none 0 0) := (blk_cell BK177.out 0).trans rfl; have hcz63_1 : w58.cell? ⟨gb177, 1, none⟩ = some (.int .i64 0) := (blk_cell BK177.out 1).trans rfl; have hfz63_0 := blk_frozen BK177.out 0; have hfz63_1 := blk_frozen BK177.out 1; have hcz64_0 : w58.cell? ⟨gb172, 0, none⟩ = some (.slice Ao52 t168.length co52) := (blk_cell BK172.out 0).trans rfl; have hcz64_1 : w58.cell? ⟨gb172, 1, none⟩ = some (.int .i64 t171) := (blk_cell BK172.out 1).trans rfl; have hfz64_0 := blk_frozen BK172.out 0; have hfz64_1 := blk_frozen BK172.out 1) | ((with_reducible refine gate_callee (f := 49) rfl ?_); refine zg #[.agg #[.slice Ao52 t168.length co52, .int .i64 t171], .agg #[.slice Ao59 t173.length co59, .int .i64 t176]] Try.func49 ?_; (with_reducible refine (impl_Differ.calls k _ _ t168 t171 _ _ t173 t176 t178 _ ?side1 ?side2 ?side3 ?side4 A24.out).mono ?_); (case side1 => refine (Kd.R_reads' (e := 3) (base := w.heap.size) (ok := fun k_ => ((((True ∧ some k_ ≠ (.slice Ao46 t157.length co46 : Value).ownBlock) ∧ some k_ ≠ (.slice Ao47 t161.length co47 : Value).ownBlock) ∧ some k_ ≠ (v166 : Value).ownBlock) ∧ some k_ ≠ (.slice Ao59 t173.length co59 : Value).ownBlock)) (n := t168.length) (c := co52) ?_).2.2; exact (zrs <| (Kd.R_mono (zfr (zfr (Kd.R_types HO170.out BK177.out (by decide)))) (fun _ h_ => h_.1)))); (case side2 => exact (Kd.R_reads' HO170.out).2.1); (case side3 => refine (Kd.R_reads' (e := 3) (base := w.heap.size) (ok := fun k_ => ((((True ∧ some k_ ≠ (.slice Ao46 t157.length co46 : Value).ownBlock) ∧ some k_ ≠ (.slice Ao47 t161.length co47 : Value).ownBlock) ∧ some k_ ≠ (v166 : Value).ownBlock) ∧ some k_ ≠ (.slice Ao52 t168.length co52 : Value).ownBlock)) (n := t173.length) (c := co59) ?_).2.2; exact (zrs <| (Kd.R_mono (zfr (zfr (Kd.R_types HO175.out BK177.out (by decide)))) (fun _ h_ => h_.1)))); (case side4 => exact (Kd.R_reads' HO175.out).2.1); rintro e w65 ⟨v179, rfl, ho0, hb⟩; refine ⟨_, rfl, ?_⟩; have HO180 := zm (Kd.R_lower (Kd.R_new' (Kd.R_new' (Kd.R_new' (Kd.R_new' (Kd.R_new' ho0 (Kd.R_lt (zrs <| (Kd.R_mono (zfr (zfr (Kd.R_types HO159.out BK177.out (by decide)))) (fun _ h_ => h_.1))))) (Kd.R_lt (zrs <| (Kd.R_mono (zfr (zfr (Kd.R_types HO163.out BK177.out (by decide)))) (fun _ h_ => h_.1))))) (Kd.R_lt (zrs <| (Kd.R_mono (zfr (zfr (Kd.R_types HO167.out BK177.out (by decide)))) (fun _ h_ => h_.1))))) (Kd.R_lt (zrs <| (Kd.R_mono (zfr (zfr (Kd.R_types HO170.out BK177.out (by decide)))) (fun _ h_ => h_.1))))) (Kd.R_lt (zrs <| (Kd.R_mono (zfr (zfr (Kd.R_types HO175.out BK177.out (by decide)))) (fun _ h_ => h_.1))))) (below_size zB)); replace HO159 := zm (Kd.R_elder' (zrs <| (Kd.R_mono (zfr (zfr (Kd.R_types HO159.out BK177.out (by decide)))) (fun _ h_ => h_.1))) (Kd.R_base ho0) hb); replace HO163 := zm (Kd.R_elder' (zrs <| (Kd.R_mono (zfr (zfr (Kd.R_types HO163.out BK177.out (by decide)))) (fun _ h_ => h_.1))) (Kd.R_base ho0) hb); replace HO167 := zm (Kd.R_elder' (zrs <| (Kd.R_mono (zfr (zfr (Kd.R_types HO167.out BK177.out (by decide)))) (fun _ h_ => h_.1))) (Kd.R_base ho0) hb); replace HO170 := zm (Kd.R_elder' (zrs <| (Kd.R_mono (zfr (zfr (Kd.R_types HO170.out BK177.out (by decide)))) (fun _ h_ => h_.1))) (Kd.R_base ho0) hb); replace HO175 := zm (Kd.R_elder' (zrs <| (Kd.R_mono (zfr (zfr (Kd.R_types HO175.out BK177.out (by decide)))) (fun _ h_ => h_.1))) (Kd.R_base ho0) hb); replace BK153 := zm (blk_below (g := gb153) (o := .cells #[.slice A0_0 l0_0.length c0_0, .int .i64 a0_1] 61 (0, 0)) (zfar (zfar (zb BK153) NB153_177) NB153_177) hb); replace BK154 := zm (blk_below (g := gb154) (o := .cells #[.slice A1_0 l1_0.length c1_0, .int .i64 a1_1] 61 (0, 0)) (zfar (zfar (zb BK154) NB154_177) NB154_177) hb); replace BK172 := zm (blk_below (g := gb172) (o := .cells #[.slice Ao52 t168.length co52, .int .i64 t171] 64 (0, 0)) (zfar (zfar (zb BK172) NB172_177) NB172_177) hb); replace BK177 := zm (blk_below (g := gb177) (o := .cells #[.slice Ao59 t173.length co59, .int .i64 t176] 64 (0, 0)) (zput (zput (zb BK177) 0) 1) hb); replace HB := zm (below_step zB hb); clear hb ho0; obtain ⟨Ao66, co66, eo66⟩ := Kd.R_slice HO180.out; subst eo66; obtain ⟨Ao67, co67, eo67⟩ := Kd.R_slice HO167.out; subst eo67) | ((with_reducible refine gate_callee (f := 50) rfl ?_); refine zg #[.slice Ao66 t178.length co66, .slice Ao67 t165.length co67] Try.func50 ?_; (with_reducible refine (laws_eqIntS.calls k _ _ t178 _ _ t165 true _ ?side1 ?side2 ?side3 ?side4 A25.out).mono ?_); (case side1 => repeat (first | exact (Kd.R_reads' HO180.out).2.2 | (with_reducible refine Kd.C_alloc ?_ _) | (with_reducible refine Kd.C_drewN ?_ _) | (with_reducible refine Kd.C_drew ?_))); (case side2 => exact (Kd.R_reads' HO180.out).2.1); (case side3 => repeat (first | exact (Kd.R_reads' HO167.out).2.2 | (with_reducible refine Kd.C_alloc ?_ _) | (with_reducible refine Kd.C_drewN ?_ _) | (with_reducible refine Kd.C_drew ?_))); (case side4 => exact (Kd.R_reads' HO167.out).2.1); rintro e w' ⟨rfl, ⟨nd, rfl⟩⟩; refine ⟨_, rfl, ?_⟩))
      (try (rw [drewN_self w65]; generalize hq_ : World.drewN w65 _ = w65; have n0_ := zm (Kd.R_at hq_ HO159.out); have n1_ := zm (Kd.R_at hq_ HO163.out); have n2_ := zm (Kd.R_at hq_ HO167.out); have n3_ := zm (Kd.R_at hq_ HO170.out); have n4_ := zm (Kd.R_at hq_ HO175.out); have n5_ := zm (Kd.R_at hq_ HO180.out); have n6_ := zm (blk_at hq_ BK153.out); have n7_ := zm (blk_at hq_ BK154.out); have n8_ := zm (blk_at hq_ BK172.out); have n9_ := zm (blk_at hq_ BK177.out); have n10_ := zm (below_at hq_ HB.out); clear hq_ HO159 HO163 HO167 HO170 HO175 HO180 BK153 BK154 BK172 BK177 HB; have HO159 := n0_; have HO163 := n1_; have HO167 := n2_; have HO170 := n3_; have HO175 := n4_; have HO180 := n5_; have BK153 := n6_; have BK154 := n7_; have BK172 := n8_; have BK177 := n9_; have HB := n10_; clear n0_ n1_ n2_ n3_ n4_ n5_ n6_ n7_ n8_ n9_ n10_))
      replace HO159 := zm (Kd.R_drew HO159.out)
      replace HO163 := zm (Kd.R_drew HO163.out)
      replace HO167 := zm (Kd.R_drew HO167.out)
      replace HO170 := zm (Kd.R_drew HO170.out)
      replace HO175 := zm (Kd.R_drew HO175.out)
      replace HO180 := zm (Kd.R_drew HO180.out)
      replace BK153 := zm (blk_drew BK153.out)
      replace BK154 := zm (blk_drew BK154.out)
      replace BK172 := zm (blk_drew BK172.out)
      replace BK177 := zm (blk_drew BK177.out)
      replace HB := zm (below_drew1 HB.out)
      refine start_ (n := 5) (S := fun w' => w'.cell? ⟨gb172, 0, none⟩ = some (.slice Ao52 t168.length co52) ∧ w'.cell? ⟨gb172, 1, none⟩ = some (.int .i64 t171) ∧ w'.cell? ⟨gb153, 0, none⟩ = some (.slice A0_0 l0_0.length c0_0) ∧ w'.cell? ⟨gb153, 1, none⟩ = some (.int .i64 a0_1)) (ds := []) (zl 5 0) (by kernel_rfl) rfl rfl ⟨(blk_cell BK172.out 0).trans rfl, (blk_cell BK172.out 1).trans rfl, (blk_cell BK153.out 0).trans rfl, (blk_cell BK153.out 1).trans rfl⟩ (fun hHeld => ?_)
      generalize w65.drew = w68 at HO159 HO163 HO167 HO170 HO175 HO180 BK153 BK154 BK172 BK177 HB hHeld ⊢
      refine zt 0 (some 40) (zl 5 1) ?_
      refine zt 1 (some 41) (zl 5 3) ?_
      refine zo 2 (some 42) (zl 5 7) (fun K hK => ?_)
      refine zgo #[.agg #[.slice A0_0 l0_0.length c0_0, .int .i64 a0_1]] Try.func48 ?_
      with_reducible refine (laws_toTree.calls k _ _ l0_0 a0_1 t182 t185 _ (zk (Kd.C_below HR0_0.out HB.out)) HC0_0.out A27.out).mono ?_
      rintro e w69 ⟨v183, rfl, ho0, hb⟩
      refine ⟨_, rfl, ?_⟩
      have HO184 := zm (Kd.R_lower (Kd.R_new' (Kd.R_new' (Kd.R_new' (Kd.R_new' (Kd.R_new' (Kd.R_new' ho0 (Kd.R_lt (zr HO159))) (Kd.R_lt (zr HO163))) (Kd.R_lt (zr HO167))) (Kd.R_lt (zr HO170))) (Kd.R_lt (zr HO175))) (Kd.R_lt (zr HO180))) (below_size zB))
      replace HO159 := zm (Kd.R_elder' (zr HO159) (Kd.R_base ho0) hb)
      replace HO163 := zm (Kd.R_elder' (zr HO163) (Kd.R_base ho0) hb)
      replace HO167 := zm (Kd.R_elder' (zr HO167) (Kd.R_base ho0) hb)
      replace HO170 := zm (Kd.R_elder' (zr HO170) (Kd.R_base ho0) hb)
      replace HO175 := zm (Kd.R_elder' (zr HO175) (Kd.R_base ho0) hb)
      replace HO180 := zm (Kd.R_elder' (zr HO180) (Kd.R_base ho0) hb)
      replace BK153 := zm (blk_below (zb BK153) hb)
      replace BK154 := zm (blk_below (zb BK154) hb)
      replace BK172 := zm (blk_below (zb BK172) hb)
      replace BK177 := zm (blk_below (zb BK177) hb)
      replace HB := zm (below_step zB hb)
      (try clear hb)
      (try clear hb2)
      (try clear hk)
      (try clear hi)
      (try clear ho0)
      obtain ⟨Ao70, co70, eo70⟩ := Kd.R_slice HO184.out
      (first | subst eo70 | (injection eo70 with f1_ f2_ f3_; have f4_ := f1_.symm; have f5_ := f3_.symm; clear f1_ f2_ f3_; subst f4_; subst f5_))
      refine hK.out _ _ ⟨(blk_cell BK172.out 0).trans rfl, (blk_cell BK172.out 1).trans rfl, (blk_cell BK153.out 0).trans rfl, (blk_cell BK153.out 1).trans rfl⟩ (fun hHeld => ?_)
      clear hK K
      refine zn ?_
      refine zo 3 (some 43) (zl 5 15) (fun K hK => ?_)
      refine zgo #[.agg #[.slice Ao52 t168.length co52, .int .i64 t171], .agg #[.slice Ao70 t182.length co70, .int .i64 t185]] Try.func51 ?_
      with_reducible refine (laws_eqTree.calls k _ _ t168 t171 _ _ t182 t185 true _ ?side1 ?side2 ?side3 ?side4 A28.out).mono ?_
      (case side1 => repeat (first | exact (Kd.R_reads' HO170.out).2.2 | (with_reducible refine Kd.C_alloc ?_ _) | (with_reducible refine Kd.C_drewN ?_ _) | (with_reducible refine Kd.C_drew ?_)))
      (case side2 => exact (Kd.R_reads' HO170.out).2.1)
      (case side3 => repeat (first | exact (Kd.R_reads' HO184.out).2.2 | (with_reducible refine Kd.C_alloc ?_ _) | (with_reducible refine Kd.C_drewN ?_ _) | (with_reducible refine Kd.C_drew ?_)))
      (case side4 => exact (Kd.R_reads' HO184.out).2.1)
      rintro e w71 ⟨rfl, hb⟩
      refine ⟨_, rfl, ?_⟩
      replace HO159 := zm (Kd.R_below (zr HO159) hb)
      replace HO163 := zm (Kd.R_below (zr HO163) hb)
      replace HO167 := zm (Kd.R_below (zr HO167) hb)
      replace HO170 := zm (Kd.R_below (zr HO170) hb)
      replace HO175 := zm (Kd.R_below (zr HO175) hb)
      replace HO180 := zm (Kd.R_below (zr HO180) hb)
      replace HO184 := zm (Kd.R_below (zr HO184) hb)
      replace BK153 := zm (blk_below (zb BK153) hb)
      replace BK154 := zm (blk_below (zb BK154) hb)
      replace BK172 := zm (blk_below (zb BK172) hb)
      replace BK177 := zm (blk_below (zb BK177) hb)
      replace HB := zm (below_step zB hb)
      (try clear hb)
      (try clear hb2)
      (try clear hk)
      (try clear hi)
      refine hK.out _ _ ⟨(blk_cell BK172.out 0).trans rfl, (blk_cell BK172.out 1).trans rfl, (blk_cell BK153.out 0).trans rfl, (blk_cell BK153.out 1).trans rfl⟩ (fun hHeld => ?_)
      clear hK K
      refine zn ?_
      refine zp 4 (some 44) (zl 5 31) ?_
      refine done_ (by kernel_rfl) ?_
      try go_wp2
      replace HO159 := zm (Kd.R_drew HO159.out)
      replace HO163 := zm (Kd.R_drew HO163.out)
      replace HO167 := zm (Kd.R_drew HO167.out)
      replace HO170 := zm (Kd.R_drew HO170.out)
      replace HO175 := zm (Kd.R_drew HO175.out)
      replace HO180 := zm (Kd.R_drew HO180.out)
      replace HO184 := zm (Kd.R_drew HO184.out)
      replace BK153 := zm (blk_drew BK153.out)
      replace BK154 := zm (blk_drew BK154.out)
      replace BK172 := zm (blk_drew BK172.out)
      replace BK177 := zm (blk_drew BK177.out)
      replace HB := zm (below_drew1 HB.out)
      refine start_ (n := 5) (S := fun w' => w'.cell? ⟨gb177, 0, none⟩ = some (.slice Ao59 t173.length co59) ∧ w'.cell? ⟨gb177, 1, none⟩ = some (.int .i64 t176) ∧ w'.cell? ⟨gb154, 0, none⟩ = some (.slice A1_0 l1_0.length c1_0) ∧ w'.cell? ⟨gb154, 1, none⟩ = some (.int .i64 a1_1)) (ds := []) (zl 5 0) (by kernel_rfl) rfl rfl ⟨(blk_cell BK177.out 0).trans rfl, (blk_cell BK177.out 1).trans rfl, (blk_cell BK154.out 0).trans rfl, (blk_cell BK154.out 1).trans rfl⟩ (fun hHeld => ?_)
      generalize w71.drew = w72 at HO159 HO163 HO167 HO170 HO175 HO180 HO184 BK153 BK154 BK172 BK177 HB hHeld ⊢
      refine zt 0 (some 45) (zl 5 1) ?_
      refine zt 1 (some 46) (zl 5 3) ?_
      refine zo 2 (some 47) (zl 5 7) (fun K hK => ?_)
      refine zgo #[.agg #[.slice A1_0 l1_0.length c1_0, .int .i64 a1_1]] Try.func48 ?_
      with_reducible refine (laws_toTree.calls k _ _ l1_0 a1_1 t187 t190 _ (zk (Kd.C_below HR1_0.out HB.out)) HC1_0.out A30.out).mono ?_
      rintro e w73 ⟨v188, rfl, ho0, hb⟩
      refine ⟨_, rfl, ?_⟩
      have HO189 := zm (Kd.R_lower (Kd.R_new' (Kd.R_new' (Kd.R_new' (Kd.R_new' (Kd.R_new' (Kd.R_new' (Kd.R_new' ho0 (Kd.R_lt (zr HO159))) (Kd.R_lt (zr HO163))) (Kd.R_lt (zr HO167))) (Kd.R_lt (zr HO170))) (Kd.R_lt (zr HO175))) (Kd.R_lt (zr HO180))) (Kd.R_lt (zr HO184))) (below_size zB))
      replace HO159 := zm (Kd.R_elder' (zr HO159) (Kd.R_base ho0) hb)
      replace HO163 := zm (Kd.R_elder' (zr HO163) (Kd.R_base ho0) hb)
      replace HO167 := zm (Kd.R_elder' (zr HO167) (Kd.R_base ho0) hb)
      replace HO170 := zm (Kd.R_elder' (zr HO170) (Kd.R_base ho0) hb)
      replace HO175 := zm (Kd.R_elder' (zr HO175) (Kd.R_base ho0) hb)
      replace HO180 := zm (Kd.R_elder' (zr HO180) (Kd.R_base ho0) hb)
      replace HO184 := zm (Kd.R_elder' (zr HO184) (Kd.R_base ho0) hb)
      replace BK153 := zm (blk_below (zb BK153) hb)
      replace BK154 := zm (blk_below (zb BK154) hb)
      replace BK172 := zm (blk_below (zb BK172) hb)
      replace BK177 := zm (blk_below (zb BK177) hb)
      replace HB := zm (below_step zB hb)
      (try clear hb)
      (try clear hb2)
      (try clear hk)
      (try clear hi)
      (try clear ho0)
      obtain ⟨Ao74, co74, eo74⟩ := Kd.R_slice HO189.out
      (first | subst eo74 | (injection eo74 with f1_ f2_ f3_; have f4_ := f1_.symm; have f5_ := f3_.symm; clear f1_ f2_ f3_; subst f4_; subst f5_))
      refine hK.out _ _ ⟨(blk_cell BK177.out 0).trans rfl, (blk_cell BK177.out 1).trans rfl, (blk_cell BK154.out 0).trans rfl, (blk_cell BK154.out 1).trans rfl⟩ (fun hHeld => ?_)
      clear hK K
      refine zn ?_
      refine zo 3 (some 48) (zl 5 15) (fun K hK => ?_)
      refine zgo #[.agg #[.slice Ao59 t173.length co59, .int .i64 t176], .agg #[.slice Ao74 t187.length co74, .int .i64 t190]] Try.func51 ?_
      with_reducible refine (laws_eqTree.calls k _ _ t173 t176 _ _ t187 t190 true _ ?side1 ?side2 ?side3 ?side4 A31.out).mono ?_
      (case side1 => repeat (first | exact (Kd.R_reads' HO175.out).2.2 | (with_reducible refine Kd.C_alloc ?_ _) | (with_reducible refine Kd.C_drewN ?_ _) | (with_reducible refine Kd.C_drew ?_)))
      (case side2 => exact (Kd.R_reads' HO175.out).2.1)
      (case side3 => repeat (first | exact (Kd.R_reads' HO189.out).2.2 | (with_reducible refine Kd.C_alloc ?_ _) | (with_reducible refine Kd.C_drewN ?_ _) | (with_reducible refine Kd.C_drew ?_)))
      (case side4 => exact (Kd.R_reads' HO189.out).2.1)
      rintro e w75 ⟨rfl, hb⟩
      refine ⟨_, rfl, ?_⟩
      replace HO159 := zm (Kd.R_below (zr HO159) hb)
      replace HO163 := zm (Kd.R_below (zr HO163) hb)
      replace HO167 := zm (Kd.R_below (zr HO167) hb)
      replace HO170 := zm (Kd.R_below (zr HO170) hb)
      replace HO175 := zm (Kd.R_below (zr HO175) hb)
      replace HO180 := zm (Kd.R_below (zr HO180) hb)
      replace HO184 := zm (Kd.R_below (zr HO184) hb)
      replace HO189 := zm (Kd.R_below (zr HO189) hb)
      replace BK153 := zm (blk_below (zb BK153) hb)
      replace BK154 := zm (blk_below (zb BK154) hb)
      replace BK172 := zm (blk_below (zb BK172) hb)
      replace BK177 := zm (blk_below (zb BK177) hb)
      replace HB := zm (below_step zB hb)
      (try clear hb)
      (try clear hb2)
      (try clear hk)
      (try clear hi)
      refine hK.out _ _ ⟨(blk_cell BK177.out 0).trans rfl, (blk_cell BK177.out 1).trans rfl, (blk_cell BK154.out 0).trans rfl, (blk_cell BK154.out 1).trans rfl⟩ (fun hHeld => ?_)
      clear hK K
      refine zn ?_
      refine zp 4 (some 49) (zl 5 31) ?_
      refine done_ (by kernel_rfl) ?_
      have hcz76_0 : w75.cell? ⟨gb172, 0, none⟩ = some (.slice Ao52 t168.length co52) := (blk_cell BK172.out 0).trans rfl
      have hcz76_1 : w75.cell? ⟨gb172, 1, none⟩ = some (.int .i64 t171) := (blk_cell BK172.out 1).trans rfl
      have hfz76_0 := blk_frozen BK172.out 0
      have hfz76_1 := blk_frozen BK172.out 1
      go_upto_region 21 with (first | ((with_reducible refine gate_callee (f := 52) rfl ?_); refine zg #[.agg #[.slice Ao52 t168.length co52, .int .i64 t171], .int .i64 1] Try.func52 ?_; (with_reducible refine (laws_markTree.calls k (fun k_ => some k_ = (.slice Ao52 t168.length co52 : Value).ownBlock) (.slice Ao52 t168.length co52) t168 t171 1 t192 t193 w _ zB ?side2 A33.out).mono ?_); (case side2 => exact Kd.R_tight rfl HO170.out); rintro e w77 ⟨rfl, hy0, hb, hkp⟩; refine ⟨_, rfl, ?_⟩; replace BK153 := zm (blk_kept (zb BK153) hkp (fun hs_ => (fun e_ => (Kd.R_ne HO170.out BK153.out (by decide)) e_) hs_)); replace BK154 := zm (blk_kept (zb BK154) hkp (fun hs_ => (fun e_ => (Kd.R_ne HO170.out BK154.out (by decide)) e_) hs_)); replace HO159 := zm (Kd.R_mono (ok' := fun k_ => some k_ ≠ (.slice Ao47 t161.length co47 : Value).ownBlock ∧ some k_ ≠ (.slice Ao67 t165.length co67 : Value).ownBlock ∧ some k_ ≠ (.slice Ao52 t168.length co52 : Value).ownBlock ∧ some k_ ≠ (.slice Ao59 t173.length co59 : Value).ownBlock ∧ some k_ ≠ (.slice Ao66 t178.length co66 : Value).ownBlock ∧ some k_ ≠ (.slice Ao70 t182.length co70 : Value).ownBlock ∧ some k_ ≠ (.slice Ao74 t187.length co74 : Value).ownBlock) (Kd.R_keptB (HO159.out) hkp (fun k_ hk_ hs_ => (hk_.1.1.1.1.2) hs_)) (fun k_ hk_ => ⟨hk_.1.1.1.1.1.1.1.2, hk_.1.1.1.1.1.1.2, hk_.1.1.1.1.1.2, hk_.1.1.1.1.2, hk_.1.1.1.2, hk_.1.1.2, hk_.1.2⟩)); replace HO163 := zm (Kd.R_mono (ok' := fun k_ => some k_ ≠ (.slice Ao46 t157.length co46 : Value).ownBlock ∧ some k_ ≠ (.slice Ao67 t165.length co67 : Value).ownBlock ∧ some k_ ≠ (.slice Ao52 t168.length co52 : Value).ownBlock ∧ some k_ ≠ (.slice Ao59 t173.length co59 : Value).ownBlock ∧ some k_ ≠ (.slice Ao66 t178.length co66 : Value).ownBlock ∧ some k_ ≠ (.slice Ao70 t182.length co70 : Value).ownBlock ∧ some k_ ≠ (.slice Ao74 t187.length co74 : Value).ownBlock) (Kd.R_keptB (HO163.out) hkp (fun k_ hk_ hs_ => (hk_.1.1.1.1.2) hs_)) (fun k_ hk_ => ⟨hk_.1.1.1.1.1.1.1.2, hk_.1.1.1.1.1.1.2, hk_.1.1.1.1.1.2, hk_.1.1.1.1.2, hk_.1.1.1.2, hk_.1.1.2, hk_.1.2⟩)); replace HO167 := zm (Kd.R_mono (ok' := fun k_ => some k_ ≠ (.slice Ao46 t157.length co46 : Value).ownBlock ∧ some k_ ≠ (.slice Ao47 t161.length co47 : Value).ownBlock ∧ some k_ ≠ (.slice Ao52 t168.length co52 : Value).ownBlock ∧ some k_ ≠ (.slice Ao59 t173.length co59 : Value).ownBlock ∧ some k_ ≠ (.slice Ao66 t178.length co66 : Value).ownBlock ∧ some k_ ≠ (.slice Ao70 t182.length co70 : Value).ownBlock ∧ some k_ ≠ (.slice Ao74 t187.length co74 : Value).ownBlock) (Kd.R_keptB (HO167.out) hkp (fun k_ hk_ hs_ => (hk_.1.1.1.1.2) hs_)) (fun k_ hk_ => ⟨hk_.1.1.1.1.1.1.1.2, hk_.1.1.1.1.1.1.2, hk_.1.1.1.1.1.2, hk_.1.1.1.1.2, hk_.1.1.1.2, hk_.1.1.2, hk_.1.2⟩)); replace BK172 := zm (blk_kept (zb BK172) hkp (fun hs_ => (fun e_ => (Kd.R_ne HO170.out BK172.out (by decide)) e_) hs_)); replace HO175 := zm (Kd.R_mono (ok' := fun k_ => some k_ ≠ (.slice Ao46 t157.length co46 : Value).ownBlock ∧ some k_ ≠ (.slice Ao47 t161.length co47 : Value).ownBlock ∧ some k_ ≠ (.slice Ao67 t165.length co67 : Value).ownBlock ∧ some k_ ≠ (.slice Ao52 t168.length co52 : Value).ownBlock ∧ some k_ ≠ (.slice Ao66 t178.length co66 : Value).ownBlock ∧ some k_ ≠ (.slice Ao70 t182.length co70 : Value).ownBlock ∧ some k_ ≠ (.slice Ao74 t187.length co74 : Value).ownBlock) (Kd.R_keptB (HO175.out) hkp (fun k_ hk_ hs_ => (hk_.1.1.1.2) hs_)) (fun k_ hk_ => ⟨hk_.1.1.1.1.1.1.1.2, hk_.1.1.1.1.1.1.2, hk_.1.1.1.1.1.2, hk_.1.1.1.1.2, hk_.1.1.1.2, hk_.1.1.2, hk_.1.2⟩)); replace BK177 := zm (blk_kept (zb BK177) hkp (fun hs_ => (fun e_ => (Kd.R_ne HO170.out BK177.out (by decide)) e_) hs_)); replace HO170 := zm (Kd.R_reok rfl hy0 (fun k_ e_ => HO170.out.1 k_ e_)); replace HO180 := zm (Kd.R_mono (ok' := fun k_ => some k_ ≠ (.slice Ao46 t157.length co46 : Value).ownBlock ∧ some k_ ≠ (.slice Ao47 t161.length co47 : Value).ownBlock ∧ some k_ ≠ (.slice Ao67 t165.length co67 : Value).ownBlock ∧ some k_ ≠ (.slice Ao52 t168.length co52 : Value).ownBlock ∧ some k_ ≠ (.slice Ao59 t173.length co59 : Value).ownBlock ∧ some k_ ≠ (.slice Ao70 t182.length co70 : Value).ownBlock ∧ some k_ ≠ (.slice Ao74 t187.length co74 : Value).ownBlock) (Kd.R_keptB (HO180.out) hkp (fun k_ hk_ hs_ => (hk_.1.1.1.2) hs_)) (fun k_ hk_ => ⟨hk_.1.1.1.1.1.1.1.2, hk_.1.1.1.1.1.1.2, hk_.1.1.1.1.1.2, hk_.1.1.1.1.2, hk_.1.1.1.2, hk_.1.1.2, hk_.1.2⟩)); replace HO184 := zm (Kd.R_mono (ok' := fun k_ => some k_ ≠ (.slice Ao46 t157.length co46 : Value).ownBlock ∧ some k_ ≠ (.slice Ao47 t161.length co47 : Value).ownBlock ∧ some k_ ≠ (.slice Ao67 t165.length co67 : Value).ownBlock ∧ some k_ ≠ (.slice Ao52 t168.length co52 : Value).ownBlock ∧ some k_ ≠ (.slice Ao59 t173.length co59 : Value).ownBlock ∧ some k_ ≠ (.slice Ao66 t178.length co66 : Value).ownBlock ∧ some k_ ≠ (.slice Ao74 t187.length co74 : Value).ownBlock) (Kd.R_keptB (HO184.out) hkp (fun k_ hk_ hs_ => (hk_.1.1.1.2) hs_)) (fun k_ hk_ => ⟨hk_.1.1.1.1.1.1.1.2, hk_.1.1.1.1.1.1.2, hk_.1.1.1.1.1.2, hk_.1.1.1.1.2, hk_.1.1.1.2, hk_.1.1.2, hk_.1.2⟩)); replace HO189 := zm (Kd.R_mono (ok' := fun k_ => some k_ ≠ (.slice Ao46 t157.length co46 : Value).ownBlock ∧ some k_ ≠ (.slice Ao47 t161.length co47 : Value).ownBlock ∧ some k_ ≠ (.slice Ao67 t165.length co67 : Value).ownBlock ∧ some k_ ≠ (.slice Ao52 t168.length co52 : Value).ownBlock ∧ some k_ ≠ (.slice Ao59 t173.length co59 : Value).ownBlock ∧ some k_ ≠ (.slice Ao66 t178.length co66 : Value).ownBlock ∧ some k_ ≠ (.slice Ao70 t182.length co70 : Value).ownBlock) (Kd.R_keptB (HO189.out) hkp (fun k_ hk_ hs_ => (hk_.1.1.1.2) hs_)) (fun k_ hk_ => ⟨hk_.1.1.1.1.1.1.1.2, hk_.1.1.1.1.1.1.2, hk_.1.1.1.1.1.2, hk_.1.1.1.1.2, hk_.1.1.1.2, hk_.1.1.2, hk_.1.2⟩)); replace HB := zm (hb); clear hb hkp hy0; have hcz78_0 : w77.cell? ⟨gb177, 0, none⟩ = some (.slice Ao59 t173.length co59) := (blk_cell BK177.out 0).trans rfl; have hcz78_1 : w77.cell? ⟨gb177, 1, none⟩ = some (.int .i64 t176) := (blk_cell BK177.out 1).trans rfl; have hfz78_0 := blk_frozen BK177.out 0; have hfz78_1 := blk_frozen BK177.out 1) | ((with_reducible refine gate_callee (f := 52) rfl ?_); refine zg #[.agg #[.slice Ao59 t173.length co59, .int .i64 t176], .int .i64 t192] Try.func52 ?_; (with_reducible refine (laws_markTree.calls k (fun k_ => some k_ = (.slice Ao59 t173.length co59 : Value).ownBlock) (.slice Ao59 t173.length co59) t173 t176 t192 t194 t195 w _ zB ?side2 A34.out).mono ?_); (case side2 => exact Kd.R_tight rfl HO175.out); rintro e w79 ⟨rfl, hy0, hb, hkp⟩; refine ⟨_, rfl, ?_⟩; replace BK153 := zm (blk_kept (zb BK153) hkp (fun hs_ => (fun e_ => (Kd.R_ne HO175.out BK153.out (by decide)) e_) hs_)); replace BK154 := zm (blk_kept (zb BK154) hkp (fun hs_ => (fun e_ => (Kd.R_ne HO175.out BK154.out (by decide)) e_) hs_)); replace HO159 := zm (Kd.R_mono (ok' := fun k_ => some k_ ≠ (.slice Ao47 t161.length co47 : Value).ownBlock ∧ some k_ ≠ (.slice Ao67 t165.length co67 : Value).ownBlock ∧ some k_ ≠ (.slice Ao52 t168.length co52 : Value).ownBlock ∧ some k_ ≠ (.slice Ao59 t173.length co59 : Value).ownBlock ∧ some k_ ≠ (.slice Ao66 t178.length co66 : Value).ownBlock ∧ some k_ ≠ (.slice Ao70 t182.length co70 : Value).ownBlock ∧ some k_ ≠ (.slice Ao74 t187.length co74 : Value).ownBlock) (Kd.R_keptB (HO159.out) hkp (fun k_ hk_ hs_ => (hk_.2.2.2.1) hs_)) (fun k_ hk_ => ⟨hk_.1.1, hk_.1.2.1, hk_.1.2.2.1, hk_.1.2.2.2.1, hk_.1.2.2.2.2.1, hk_.1.2.2.2.2.2.1, hk_.1.2.2.2.2.2.2⟩)); replace HO163 := zm (Kd.R_mono (ok' := fun k_ => some k_ ≠ (.slice Ao46 t157.length co46 : Value).ownBlock ∧ some k_ ≠ (.slice Ao67 t165.length co67 : Value).ownBlock ∧ some k_ ≠ (.slice Ao52 t168.length co52 : Value).ownBlock ∧ some k_ ≠ (.slice Ao59 t173.length co59 : Value).ownBlock ∧ some k_ ≠ (.slice Ao66 t178.length co66 : Value).ownBlock ∧ some k_ ≠ (.slice Ao70 t182.length co70 : Value).ownBlock ∧ some k_ ≠ (.slice Ao74 t187.length co74 : Value).ownBlock) (Kd.R_keptB (HO163.out) hkp (fun k_ hk_ hs_ => (hk_.2.2.2.1) hs_)) (fun k_ hk_ => ⟨hk_.1.1, hk_.1.2.1, hk_.1.2.2.1, hk_.1.2.2.2.1, hk_.1.2.2.2.2.1, hk_.1.2.2.2.2.2.1, hk_.1.2.2.2.2.2.2⟩)); replace HO167 := zm (Kd.R_mono (ok' := fun k_ => some k_ ≠ (.slice Ao46 t157.length co46 : Value).ownBlock ∧ some k_ ≠ (.slice Ao47 t161.length co47 : Value).ownBlock ∧ some k_ ≠ (.slice Ao52 t168.length co52 : Value).ownBlock ∧ some k_ ≠ (.slice Ao59 t173.length co59 : Value).ownBlock ∧ some k_ ≠ (.slice Ao66 t178.length co66 : Value).ownBlock ∧ some k_ ≠ (.slice Ao70 t182.length co70 : Value).ownBlock ∧ some k_ ≠ (.slice Ao74 t187.length co74 : Value).ownBlock) (Kd.R_keptB (HO167.out) hkp (fun k_ hk_ hs_ => (hk_.2.2.2.1) hs_)) (fun k_ hk_ => ⟨hk_.1.1, hk_.1.2.1, hk_.1.2.2.1, hk_.1.2.2.2.1, hk_.1.2.2.2.2.1, hk_.1.2.2.2.2.2.1, hk_.1.2.2.2.2.2.2⟩)); replace HO170 := zm (Kd.R_mono (ok' := fun k_ => some k_ ≠ (.slice Ao46 t157.length co46 : Value).ownBlock ∧ some k_ ≠ (.slice Ao47 t161.length co47 : Value).ownBlock ∧ some k_ ≠ (.slice Ao67 t165.length co67 : Value).ownBlock ∧ some k_ ≠ (.slice Ao59 t173.length co59 : Value).ownBlock ∧ some k_ ≠ (.slice Ao66 t178.length co66 : Value).ownBlock ∧ some k_ ≠ (.slice Ao70 t182.length co70 : Value).ownBlock ∧ some k_ ≠ (.slice Ao74 t187.length co74 : Value).ownBlock) (Kd.R_keptB (HO170.out) hkp (fun k_ hk_ hs_ => (hk_.1.1.1.2) hs_)) (fun k_ hk_ => ⟨hk_.1.1.1.1.1.1.1.2, hk_.1.1.1.1.1.1.2, hk_.1.1.1.1.1.2, hk_.1.1.1.1.2, hk_.1.1.1.2, hk_.1.1.2, hk_.1.2⟩)); replace BK172 := zm (blk_kept (zb BK172) hkp (fun hs_ => (fun e_ => (Kd.R_ne HO175.out BK172.out (by decide)) e_) hs_)); replace BK177 := zm (blk_kept (zb BK177) hkp (fun hs_ => (fun e_ => (Kd.R_ne HO175.out BK177.out (by decide)) e_) hs_)); replace HO175 := zm (Kd.R_reok rfl hy0 (fun k_ e_ => HO175.out.1 k_ e_)); replace HO180 := zm (Kd.R_mono (ok' := fun k_ => some k_ ≠ (.slice Ao46 t157.length co46 : Value).ownBlock ∧ some k_ ≠ (.slice Ao47 t161.length co47 : Value).ownBlock ∧ some k_ ≠ (.slice Ao67 t165.length co67 : Value).ownBlock ∧ some k_ ≠ (.slice Ao52 t168.length co52 : Value).ownBlock ∧ some k_ ≠ (.slice Ao59 t173.length co59 : Value).ownBlock ∧ some k_ ≠ (.slice Ao70 t182.length co70 : Value).ownBlock ∧ some k_ ≠ (.slice Ao74 t187.length co74 : Value).ownBlock) (Kd.R_keptB (HO180.out) hkp (fun k_ hk_ hs_ => (hk_.2.2.2.2.1) hs_)) (fun k_ hk_ => ⟨hk_.1.1, hk_.1.2.1, hk_.1.2.2.1, hk_.1.2.2.2.1, hk_.1.2.2.2.2.1, hk_.1.2.2.2.2.2.1, hk_.1.2.2.2.2.2.2⟩)); replace HO184 := zm (Kd.R_mono (ok' := fun k_ => some k_ ≠ (.slice Ao46 t157.length co46 : Value).ownBlock ∧ some k_ ≠ (.slice Ao47 t161.length co47 : Value).ownBlock ∧ some k_ ≠ (.slice Ao67 t165.length co67 : Value).ownBlock ∧ some k_ ≠ (.slice Ao52 t168.length co52 : Value).ownBlock ∧ some k_ ≠ (.slice Ao59 t173.length co59 : Value).ownBlock ∧ some k_ ≠ (.slice Ao66 t178.length co66 : Value).ownBlock ∧ some k_ ≠ (.slice Ao74 t187.length co74 : Value).ownBlock) (Kd.R_keptB (HO184.out) hkp (fun k_ hk_ hs_ => (hk_.2.2.2.2.1) hs_)) (fun k_ hk_ => ⟨hk_.1.1, hk_.1.2.1, hk_.1.2.2.1, hk_.1.2.2.2.1, hk_.1.2.2.2.2.1, hk_.1.2.2.2.2.2.1, hk_.1.2.2.2.2.2.2⟩)); replace HO189 := zm (Kd.R_mono (ok' := fun k_ => some k_ ≠ (.slice Ao46 t157.length co46 : Value).ownBlock ∧ some k_ ≠ (.slice Ao47 t161.length co47 : Value).ownBlock ∧ some k_ ≠ (.slice Ao67 t165.length co67 : Value).ownBlock ∧ some k_ ≠ (.slice Ao52 t168.length co52 : Value).ownBlock ∧ some k_ ≠ (.slice Ao59 t173.length co59 : Value).ownBlock ∧ some k_ ≠ (.slice Ao66 t178.length co66 : Value).ownBlock ∧ some k_ ≠ (.slice Ao70 t182.length co70 : Value).ownBlock) (Kd.R_keptB (HO189.out) hkp (fun k_ hk_ hs_ => (hk_.2.2.2.2.1) hs_)) (fun k_ hk_ => ⟨hk_.1.1, hk_.1.2.1, hk_.1.2.2.1, hk_.1.2.2.2.1, hk_.1.2.2.2.2.1, hk_.1.2.2.2.2.2.1, hk_.1.2.2.2.2.2.2⟩)); replace HB := zm (hb); clear hb hkp hy0))
      (try simp only [Act.put, List.setIfInBounds_toArray, List.set_cons_zero, List.set_cons_succ])
      go_cut [63] (fun v63 wc => ∃ (kq : Nat) (x63_34 : Bool), v63 = .bool x63_34 ∧ Aside0 (laws_FnExactDiffer.j0 kq t165 t178 x63_34 l0_0 a0_1 l1_0 a1_1 = some r) ∧ Aside0 (kq ≤ k) ∧ Aside0 (Kd.R (Kd.int .i64) 3 wc w.heap.size (fun k_ => some k_ ≠ ((.slice Ao66 t178.length co66) : Value).ownBlock ∧ some k_ ≠ ((.slice Ao52 t168.length co52) : Value).ownBlock ∧ some k_ ≠ ((.slice Ao59 t173.length co59) : Value).ownBlock) (.slice Ao67 t165.length co67) t165) ∧ Aside0 (Kd.R (Kd.int .i64) 3 wc w.heap.size (fun k_ => some k_ ≠ ((.slice Ao67 t165.length co67) : Value).ownBlock ∧ some k_ ≠ ((.slice Ao52 t168.length co52) : Value).ownBlock ∧ some k_ ≠ ((.slice Ao59 t173.length co59) : Value).ownBlock) (.slice Ao66 t178.length co66) t178) ∧ Aside0 (Kd.R (Kd.int .i64) 3 wc w.heap.size (fun k_ => some k_ ≠ ((.slice Ao67 t165.length co67) : Value).ownBlock ∧ some k_ ≠ ((.slice Ao66 t178.length co66) : Value).ownBlock ∧ some k_ ≠ ((.slice Ao59 t173.length co59) : Value).ownBlock) (.slice Ao52 t168.length co52) t193) ∧ Aside0 (Kd.R (Kd.int .i64) 3 wc w.heap.size (fun k_ => some k_ ≠ ((.slice Ao67 t165.length co67) : Value).ownBlock ∧ some k_ ≠ ((.slice Ao66 t178.length co66) : Value).ownBlock ∧ some k_ ≠ ((.slice Ao52 t168.length co52) : Value).ownBlock) (.slice Ao59 t173.length co59) t195) ∧ Aside0 (wc.heap[gb153]? = some (.cells #[(.slice A0_0 l0_0.length c0_0), .int .i64 a0_1] 61 (0, 0))) ∧ Aside0 (wc.heap[gb154]? = some (.cells #[(.slice A1_0 l1_0.length c1_0), .int .i64 a1_1] 61 (0, 0))) ∧ Aside0 (wc.heap[gb172]? = some (.cells #[(.slice Ao52 t168.length co52), .int .i64 t171] 64 (0, 0))) ∧ Aside0 (wc.heap[gb177]? = some (.cells #[(.slice Ao59 t173.length co59), .int .i64 t176] 64 (0, 0))) ∧ Aside0 (Below w.heap.size w wc))
      case first =>
       have H := HC35.out
       clear HC35
       by_cases c80 : t194 < 0
       ·rw [if_pos c80] at H
        have c80b0 : decide (t194 < 0) = true := decide_eq_true c80
        clear c80
        (first | rw [c80b0] | (simp only [i64_w, i32_w]; rw [c80b0]) | skip)
        have H' := zm H
        clear H
        go_wp2
        go_meet
        case rel => exact ⟨_, (true), zF, H', ⟨by first | omega | exact Nat.le_refl _⟩, ⟨by (with_reducible repeat (first | apply Kd.R_alloc | apply Kd.R_drewN | apply Kd.R_drew)); exact Kd.R_mono HO167.out (fun _ hk => ⟨hk.2.2.2.2.1, ⟨hk.2.2.1, hk.2.2.2.1⟩⟩)⟩, ⟨by (with_reducible repeat (first | apply Kd.R_alloc | apply Kd.R_drewN | apply Kd.R_drew)); exact Kd.R_mono HO180.out (fun _ hk => ⟨hk.2.2.1, ⟨hk.2.2.2.1, hk.2.2.2.2.1⟩⟩)⟩, ⟨by (with_reducible repeat (first | apply Kd.R_alloc | apply Kd.R_drewN | apply Kd.R_drew)); exact Kd.R_mono HO170.out (fun _ hk => ⟨hk.2.2.1, ⟨hk.2.2.2.2.1, hk.2.2.2.1⟩⟩)⟩, ⟨by (with_reducible repeat (first | apply Kd.R_alloc | apply Kd.R_drewN | apply Kd.R_drew)); exact Kd.R_mono HO175.out (fun _ hk => ⟨hk.2.2.1, ⟨hk.2.2.2.2.1, hk.2.2.2.1⟩⟩)⟩, ⟨zb BK153⟩, ⟨zb BK154⟩, ⟨zb BK172⟩, ⟨zb BK177⟩, ⟨zB⟩⟩
       ·rw [if_neg c80] at H
        have c80b0 : decide (t194 < 0) = false := decide_eq_false c80
        clear c80
        (first | rw [c80b0] | (simp only [i64_w, i32_w]; rw [c80b0]) | skip)
        replace H := Option.bind_eq_some_iff.mp H
        obtain ⟨t196, A810, H⟩ := H
        replace H : (laws_FnExactDiffer.j0 k t165 t178 (!t196) l0_0 a0_1 l1_0 a1_1) = some r := H
        have A81 := zm A810
        clear A810
        have H' := zm H
        clear H
        go_wp2_with (first | (go_at_call 50; (with_reducible refine (laws_eqIntS.calls k _ _ t178 _ _ t165 t196 _ ?side1 ?side2 ?side3 ?side4 A81.out).mono ?_); (case side1 => repeat (first | exact (Kd.R_reads' HO180.out).2.2 | (with_reducible refine Kd.C_alloc ?_ _) | (with_reducible refine Kd.C_drewN ?_ _) | (with_reducible refine Kd.C_drew ?_))); (case side2 => exact (Kd.R_reads' HO180.out).2.1); (case side3 => repeat (first | exact (Kd.R_reads' HO167.out).2.2 | (with_reducible refine Kd.C_alloc ?_ _) | (with_reducible refine Kd.C_drewN ?_ _) | (with_reducible refine Kd.C_drew ?_))); (case side4 => exact (Kd.R_reads' HO167.out).2.1); rintro e w' ⟨rfl, ⟨nd, rfl⟩⟩))
        go_meet
        case rel => exact ⟨_, (!t196), zF, H', ⟨by first | omega | exact Nat.le_refl _⟩, ⟨by (with_reducible repeat (first | apply Kd.R_alloc | apply Kd.R_drewN | apply Kd.R_drew)); exact Kd.R_mono HO167.out (fun _ hk => ⟨hk.2.2.2.2.1, ⟨hk.2.2.1, hk.2.2.2.1⟩⟩)⟩, ⟨by (with_reducible repeat (first | apply Kd.R_alloc | apply Kd.R_drewN | apply Kd.R_drew)); exact Kd.R_mono HO180.out (fun _ hk => ⟨hk.2.2.1, ⟨hk.2.2.2.1, hk.2.2.2.2.1⟩⟩)⟩, ⟨by (with_reducible repeat (first | apply Kd.R_alloc | apply Kd.R_drewN | apply Kd.R_drew)); exact Kd.R_mono HO170.out (fun _ hk => ⟨hk.2.2.1, ⟨hk.2.2.2.2.1, hk.2.2.2.1⟩⟩)⟩, ⟨by (with_reducible repeat (first | apply Kd.R_alloc | apply Kd.R_drewN | apply Kd.R_drew)); exact Kd.R_mono HO175.out (fun _ hk => ⟨hk.2.2.1, ⟨hk.2.2.2.2.1, hk.2.2.2.1⟩⟩)⟩, ⟨zb BK153⟩, ⟨zb BK154⟩, ⟨zb BK172⟩, ⟨zb BK177⟩, ⟨zB⟩⟩
      case rest =>
       clear HC35
       try clear c1
       try clear c2
       try clear p2
       try clear c3
       try clear c4
       try clear c5
       try clear c6
       try clear c8
       try clear c14
       try clear c26
       try clear c29
       try clear c32
       try clear c38
       try clear c46
       try clear c47
       try clear c48
       try clear c49
       try clear c50
       try clear c51
       try clear c52
       try clear c53
       try clear c54
       try clear c60
       try clear c61
       try clear c62
       try clear c80
       try clear c80b0
       try clear hcz39_0
       try clear hcz39_1
       try clear hcz41_0
       try clear hcz41_1
       try clear hcz49_0
       try clear hcz49_1
       try clear hcz55_0
       try clear hcz55_1
       try clear hcz56_0
       try clear hcz56_1
       try clear hcz63_0
       try clear hcz63_1
       try clear hcz64_0
       try clear hcz64_1
       try clear hcz76_0
       try clear hcz76_1
       try clear hcz78_0
       try clear hcz78_1
       try clear hfz39_0
       try clear hfz39_1
       try clear hfz41_0
       try clear hfz41_1
       try clear hfz49_0
       try clear hfz49_1
       try clear hfz55_0
       try clear hfz55_1
       try clear hfz56_0
       try clear hfz56_1
       try clear hfz63_0
       try clear hfz63_1
       try clear hfz64_0
       try clear hfz64_1
       try clear hfz76_0
       try clear hfz76_1
       try clear hfz78_0
       try clear hfz78_1
       obtain ⟨kq, x63_34, rfl, HA, HJ34, HO_6, HO_9, HO_173000, HO_178000, BK153, BK154, BK172, BK177, HB⟩ := hcut
       have hl173000_34 := (Kd.R_reads' HO_173000.out).1
       rw [hl173000_34] at HO_173000
       (try simp only [hl173000_34])
       (try simp only [hl173000_34] at BK153)
       (try simp only [hl173000_34] at BK154)
       (try simp only [hl173000_34] at BK172)
       (try simp only [hl173000_34] at BK177)
       (try simp only [hl173000_34] at HO_6)
       (try simp only [hl173000_34] at HO_9)
       (try simp only [hl173000_34] at HO_178000)
       have hl178000_34 := (Kd.R_reads' HO_178000.out).1
       rw [hl178000_34] at HO_178000
       (try simp only [hl178000_34])
       (try simp only [hl178000_34] at BK153)
       (try simp only [hl178000_34] at BK154)
       (try simp only [hl178000_34] at BK172)
       (try simp only [hl178000_34] at BK177)
       (try simp only [hl178000_34] at HO_6)
       (try simp only [hl178000_34] at HO_9)
       (try simp only [hl178000_34] at HO_173000)
       cases kq with
       | zero => exact absurd HA.out (by simp [laws_FnExactDiffer.j0])
       | succ kj34 =>
        have H := HA.out
        clear HA
        simp only [laws_FnExactDiffer.j0] at H
        by_cases c82 : x63_34 = true
        ·subst c82
         have H1 : (some false) = some r := by rw [if_pos rfl] at H; exact H
         clear H
         have H := H1
         clear H1
         obtain rfl := Option.some.inj H
         go_wp2
         go_ret
         exact ⟨zE, zB⟩
        ·replace c82 := Bool.eq_false_iff.mpr c82
         subst c82
         have H1 : ((laws_markIntS.f kj34 t178 1).bind fun bt197 => ((laws_heldIntS.f kj34 bt197.2 1).bind fun t199 => (if t199 < 0 then (some false) else (if t199 = bt197.1 then ((laws_toTree.f kj34 l0_0 a0_1).bind fun bt200 => ((laws_toTree.f kj34 l1_0 a1_1).bind fun bt204 => ((impl_Differ.f kj34 bt200.1 bt200.2 bt204.1 bt204.2).bind fun t208 => ((laws_eqIntS.f kj34 t208 t165).bind fun t211 => (if t211 = true then ((laws_heldIntS.f kj34 bt197.2 1).bind fun t212 => (if t212 < 0 then (some false) else (if t212 = bt197.1 then (some true) else (some false)))) else (some false)))))) else (some false))))) = some r := by rw [if_neg (show ¬ (false = true) by decide)] at H; exact H
         clear H
         have H := H1
         clear H1
         replace H := Option.bind_eq_some_iff.mp H
         obtain ⟨⟨t197, t198⟩, A830, H⟩ := H
         replace H : ((laws_heldIntS.f kj34 t198 1).bind fun t199 => (if t199 < 0 then (some false) else (if t199 = t197 then ((laws_toTree.f kj34 l0_0 a0_1).bind fun bt200 => ((laws_toTree.f kj34 l1_0 a1_1).bind fun bt204 => ((impl_Differ.f kj34 bt200.1 bt200.2 bt204.1 bt204.2).bind fun t208 => ((laws_eqIntS.f kj34 t208 t165).bind fun t211 => (if t211 = true then ((laws_heldIntS.f kj34 t198 1).bind fun t212 => (if t212 < 0 then (some false) else (if t212 = t197 then (some true) else (some false)))) else (some false)))))) else (some false)))) = some r := H
         have A83 := zm A830
         clear A830
         replace H := Option.bind_eq_some_iff.mp H
         obtain ⟨t199, A840, H⟩ := H
         replace H : (if t199 < 0 then (some false) else (if t199 = t197 then ((laws_toTree.f kj34 l0_0 a0_1).bind fun bt200 => ((laws_toTree.f kj34 l1_0 a1_1).bind fun bt204 => ((impl_Differ.f kj34 bt200.1 bt200.2 bt204.1 bt204.2).bind fun t208 => ((laws_eqIntS.f kj34 t208 t165).bind fun t211 => (if t211 = true then ((laws_heldIntS.f kj34 t198 1).bind fun t212 => (if t212 < 0 then (some false) else (if t212 = t197 then (some true) else (some false)))) else (some false)))))) else (some false))) = some r := H
         have A84 := zm A840
         clear A840
         by_cases c85 : t199 < 0
         ·rw [if_pos c85] at H
          have c85b0 : decide (t199 < 0) = true := decide_eq_true c85
          clear c85
          obtain rfl := Option.some.inj H
          go_wp2_with (first | ((with_reducible refine gate_callee (f := 53) rfl ?_); refine zg #[.slice Ao66 t178.length co66, .int .i64 1] Try.func53 ?_; (with_reducible refine (laws_markIntS.calls kj34 (fun k_ => some k_ = (.slice Ao66 t178.length co66 : Value).ownBlock) (.slice Ao66 t178.length co66) t178 1 t197 t198 w _ zB ?side2 A83.out).mono ?_); (case side2 => exact Kd.R_tight rfl HO_9.out); rintro e w86 ⟨rfl, hy0, hb, hkp⟩; refine ⟨_, rfl, ?_⟩; replace HO_6 := zm (Kd.R_mono (ok' := fun k_ => some k_ ≠ (.slice Ao66 t178.length co66 : Value).ownBlock ∧ some k_ ≠ (.slice Ao52 t193.length co52 : Value).ownBlock ∧ some k_ ≠ (.slice Ao59 t195.length co59 : Value).ownBlock) (Kd.R_keptB (HO_6.out) hkp (fun k_ hk_ hs_ => (hk_.1) hs_)) (fun k_ hk_ => ⟨hk_.1.1, hk_.1.2.1, hk_.1.2.2⟩)); replace HO_173000 := zm (Kd.R_mono (ok' := fun k_ => some k_ ≠ (.slice Ao67 t165.length co67 : Value).ownBlock ∧ some k_ ≠ (.slice Ao66 t178.length co66 : Value).ownBlock ∧ some k_ ≠ (.slice Ao59 t195.length co59 : Value).ownBlock) (Kd.R_keptB (HO_173000.out) hkp (fun k_ hk_ hs_ => (hk_.2.1) hs_)) (fun k_ hk_ => ⟨hk_.1.1, hk_.1.2.1, hk_.1.2.2⟩)); replace HO_178000 := zm (Kd.R_mono (ok' := fun k_ => some k_ ≠ (.slice Ao67 t165.length co67 : Value).ownBlock ∧ some k_ ≠ (.slice Ao66 t178.length co66 : Value).ownBlock ∧ some k_ ≠ (.slice Ao52 t193.length co52 : Value).ownBlock) (Kd.R_keptB (HO_178000.out) hkp (fun k_ hk_ hs_ => (hk_.2.1) hs_)) (fun k_ hk_ => ⟨hk_.1.1, hk_.1.2.1, hk_.1.2.2⟩)); replace BK153 := zm (blk_kept (zb BK153) hkp (fun hs_ => (fun e_ => (Kd.R_ne HO_9.out BK153.out (by decide)) e_) hs_)); replace BK154 := zm (blk_kept (zb BK154) hkp (fun hs_ => (fun e_ => (Kd.R_ne HO_9.out BK154.out (by decide)) e_) hs_)); replace BK172 := zm (blk_kept (zb BK172) hkp (fun hs_ => (fun e_ => (Kd.R_ne HO_9.out BK172.out (by decide)) e_) hs_)); replace BK177 := zm (blk_kept (zb BK177) hkp (fun hs_ => (fun e_ => (Kd.R_ne HO_9.out BK177.out (by decide)) e_) hs_)); replace HO_9 := zm (Kd.R_reok rfl hy0 (fun k_ e_ => HO_9.out.1 k_ e_)); replace HB := zm (hb); clear hb hkp hy0) | ((with_reducible refine gate_callee (f := 54) rfl ?_); refine goesL_ (some 69) rfl rfl Try.func54 (by kernel_rfl) rfl #[.slice Ao66 t198.length co66, .int .i64 1] rfl (by (try simp only [List.map_toArray, List.map_cons, List.map_nil]); first | done | (rw [show t198.length = t178.length from (Kd.R_reads' HO_9.out).1.symm] <;> rfl) | rfl | (simp only [List.length_drop, List.length_take]; rfl)) ?_; (with_reducible refine (laws_heldIntS.calls kj34 _ _ t198 1 t199 _ ?side1 ?side2 A84.out).mono ?_); (case side1 => repeat (first | exact (Kd.R_reads' HO_9.out).2.2 | (with_reducible refine Kd.C_alloc ?_ _) | (with_reducible refine Kd.C_drewN ?_ _) | (with_reducible refine Kd.C_drew ?_))); (case side2 => rw [show t198.length = t178.length from (Kd.R_reads' HO_9.out).1.symm]; exact (Kd.R_reads' HO_9.out).2.1); rintro e w' ⟨rfl, ⟨nd, rfl⟩⟩; refine ⟨_, rfl, ?_⟩))
          go_ret
          exact ⟨zE, zB⟩
         ·rw [if_neg c85] at H
          have c85b0 : decide (t199 < 0) = false := decide_eq_false c85
          clear c85
          by_cases c87 : t199 = t197
          ·rw [if_pos c87] at H
           have c87b0 : (t199 == t197) = true := beq_iff_eq.mpr c87
           have c87b1 : (t199 != t197) = false := bne_eq_false_iff_eq.mpr c87
           clear c87
           replace H := Option.bind_eq_some_iff.mp H
           obtain ⟨⟨t200, t203⟩, A880, H⟩ := H
           replace H : ((laws_toTree.f kj34 l1_0 a1_1).bind fun bt204 => ((impl_Differ.f kj34 t200 t203 bt204.1 bt204.2).bind fun t208 => ((laws_eqIntS.f kj34 t208 t165).bind fun t211 => (if t211 = true then ((laws_heldIntS.f kj34 t198 1).bind fun t212 => (if t212 < 0 then (some false) else (if t212 = t197 then (some true) else (some false)))) else (some false))))) = some r := H
           have A88 := zm A880
           clear A880
           replace H := Option.bind_eq_some_iff.mp H
           obtain ⟨⟨t204, t207⟩, A890, H⟩ := H
           replace H : ((impl_Differ.f kj34 t200 t203 t204 t207).bind fun t208 => ((laws_eqIntS.f kj34 t208 t165).bind fun t211 => (if t211 = true then ((laws_heldIntS.f kj34 t198 1).bind fun t212 => (if t212 < 0 then (some false) else (if t212 = t197 then (some true) else (some false)))) else (some false)))) = some r := H
           have A89 := zm A890
           clear A890
           replace H := Option.bind_eq_some_iff.mp H
           obtain ⟨t208, A900, H⟩ := H
           replace H : ((laws_eqIntS.f kj34 t208 t165).bind fun t211 => (if t211 = true then ((laws_heldIntS.f kj34 t198 1).bind fun t212 => (if t212 < 0 then (some false) else (if t212 = t197 then (some true) else (some false)))) else (some false))) = some r := H
           have A90 := zm A900
           clear A900
           replace H := Option.bind_eq_some_iff.mp H
           obtain ⟨t211, A910, H⟩ := H
           replace H : (if t211 = true then ((laws_heldIntS.f kj34 t198 1).bind fun t212 => (if t212 < 0 then (some false) else (if t212 = t197 then (some true) else (some false)))) else (some false)) = some r := H
           have A91 := zm A910
           clear A910
           by_cases c92 : t211 = true
           ·subst c92
            have H1 : ((laws_heldIntS.f kj34 t198 1).bind fun t212 => (if t212 < 0 then (some false) else (if t212 = t197 then (some true) else (some false)))) = some r := by rw [if_pos rfl] at H; exact H
            clear H
            have H := H1
            clear H1
            replace H := Option.bind_eq_some_iff.mp H
            obtain ⟨t212, A930, H⟩ := H
            replace H : (if t212 < 0 then (some false) else (if t212 = t197 then (some true) else (some false))) = some r := H
            have A93 := zm A930
            clear A930
            by_cases c94 : t212 < 0
            ·rw [if_pos c94] at H
             have c94b0 : decide (t212 < 0) = true := decide_eq_true c94
             clear c94
             obtain rfl := Option.some.inj H
             try go_wp2_with (first | ((with_reducible refine gate_callee (f := 53) rfl ?_); refine zg #[.slice Ao66 t178.length co66, .int .i64 1] Try.func53 ?_; (with_reducible refine (laws_markIntS.calls kj34 (fun k_ => some k_ = (.slice Ao66 t178.length co66 : Value).ownBlock) (.slice Ao66 t178.length co66) t178 1 t197 t198 w _ zB ?side2 A83.out).mono ?_); (case side2 => exact Kd.R_tight rfl HO_9.out); rintro e w95 ⟨rfl, hy0, hb, hkp⟩; refine ⟨_, rfl, ?_⟩; replace HO_6 := zm (Kd.R_mono (ok' := fun k_ => some k_ ≠ (.slice Ao66 t178.length co66 : Value).ownBlock ∧ some k_ ≠ (.slice Ao52 t193.length co52 : Value).ownBlock ∧ some k_ ≠ (.slice Ao59 t195.length co59 : Value).ownBlock) (Kd.R_keptB (HO_6.out) hkp (fun k_ hk_ hs_ => (hk_.1) hs_)) (fun k_ hk_ => ⟨hk_.1.1, hk_.1.2.1, hk_.1.2.2⟩)); replace HO_173000 := zm (Kd.R_mono (ok' := fun k_ => some k_ ≠ (.slice Ao67 t165.length co67 : Value).ownBlock ∧ some k_ ≠ (.slice Ao66 t178.length co66 : Value).ownBlock ∧ some k_ ≠ (.slice Ao59 t195.length co59 : Value).ownBlock) (Kd.R_keptB (HO_173000.out) hkp (fun k_ hk_ hs_ => (hk_.2.1) hs_)) (fun k_ hk_ => ⟨hk_.1.1, hk_.1.2.1, hk_.1.2.2⟩)); replace HO_178000 := zm (Kd.R_mono (ok' := fun k_ => some k_ ≠ (.slice Ao67 t165.length co67 : Value).ownBlock ∧ some k_ ≠ (.slice Ao66 t178.length co66 : Value).ownBlock ∧ some k_ ≠ (.slice Ao52 t193.length co52 : Value).ownBlock) (Kd.R_keptB (HO_178000.out) hkp (fun k_ hk_ hs_ => (hk_.2.1) hs_)) (fun k_ hk_ => ⟨hk_.1.1, hk_.1.2.1, hk_.1.2.2⟩)); replace BK153 := zm (blk_kept (zb BK153) hkp (fun hs_ => (fun e_ => (Kd.R_ne HO_9.out BK153.out (by decide)) e_) hs_)); replace BK154 := zm (blk_kept (zb BK154) hkp (fun hs_ => (fun e_ => (Kd.R_ne HO_9.out BK154.out (by decide)) e_) hs_)); replace BK172 := zm (blk_kept (zb BK172) hkp (fun hs_ => (fun e_ => (Kd.R_ne HO_9.out BK172.out (by decide)) e_) hs_)); replace BK177 := zm (blk_kept (zb BK177) hkp (fun hs_ => (fun e_ => (Kd.R_ne HO_9.out BK177.out (by decide)) e_) hs_)); replace HO_9 := zm (Kd.R_reok rfl hy0 (fun k_ e_ => HO_9.out.1 k_ e_)); replace HB := zm (hb); clear hb hkp hy0) | ((with_reducible refine gate_callee (f := 54) rfl ?_); refine goesL_ (some 69) rfl rfl Try.func54 (by kernel_rfl) rfl #[.slice Ao66 t198.length co66, .int .i64 1] rfl (by (try simp only [List.map_toArray, List.map_cons, List.map_nil]); first | done | (rw [show t198.length = t178.length from (Kd.R_reads' HO_9.out).1.symm] <;> rfl) | rfl | (simp only [List.length_drop, List.length_take]; rfl)) ?_; (with_reducible refine (laws_heldIntS.calls kj34 _ _ t198 1 t199 _ ?side1 ?side2 A84.out).mono ?_); (case side1 => repeat (first | exact (Kd.R_reads' HO_9.out).2.2 | (with_reducible refine Kd.C_alloc ?_ _) | (with_reducible refine Kd.C_drewN ?_ _) | (with_reducible refine Kd.C_drew ?_))); (case side2 => rw [show t198.length = t178.length from (Kd.R_reads' HO_9.out).1.symm]; exact (Kd.R_reads' HO_9.out).2.1); rintro e w' ⟨rfl, ⟨nd, rfl⟩⟩; refine ⟨_, rfl, ?_⟩))
             (try (rw [drewN_self w95]; generalize hq_ : World.drewN w95 _ = w95; have n0_ := zm (Kd.R_at hq_ HO_6.out); have n1_ := zm (Kd.R_at hq_ HO_9.out); have n2_ := zm (Kd.R_at hq_ HO_173000.out); have n3_ := zm (Kd.R_at hq_ HO_178000.out); have n4_ := zm (blk_at hq_ BK153.out); have n5_ := zm (blk_at hq_ BK154.out); have n6_ := zm (blk_at hq_ BK172.out); have n7_ := zm (blk_at hq_ BK177.out); have n8_ := zm (below_at hq_ HB.out); clear hq_ HO_6 HO_9 HO_173000 HO_178000 BK153 BK154 BK172 BK177 HB; have HO_6 := n0_; have HO_9 := n1_; have HO_173000 := n2_; have HO_178000 := n3_; have BK153 := n4_; have BK154 := n5_; have BK172 := n6_; have BK177 := n7_; have HB := n8_; clear n0_ n1_ n2_ n3_ n4_ n5_ n6_ n7_ n8_))
             replace HO_6 := zm (Kd.R_drew HO_6.out)
             replace HO_9 := zm (Kd.R_drew HO_9.out)
             replace HO_173000 := zm (Kd.R_drew HO_173000.out)
             replace HO_178000 := zm (Kd.R_drew HO_178000.out)
             replace BK153 := zm (blk_drew BK153.out)
             replace BK154 := zm (blk_drew BK154.out)
             replace BK172 := zm (blk_drew BK172.out)
             replace BK177 := zm (blk_drew BK177.out)
             replace HB := zm (below_drew1 HB.out)
             refine start_ (n := 6) (S := fun w' => w'.cell? ⟨gb153, 0, none⟩ = some (.slice A0_0 l0_0.length c0_0) ∧ w'.cell? ⟨gb153, 1, none⟩ = some (.int .i64 a0_1) ∧ w'.cell? ⟨gb154, 0, none⟩ = some (.slice A1_0 l1_0.length c1_0) ∧ w'.cell? ⟨gb154, 1, none⟩ = some (.int .i64 a1_1)) (ds := []) (zl 6 0) (by kernel_rfl) rfl rfl ⟨(blk_cell BK153.out 0).trans rfl, (blk_cell BK153.out 1).trans rfl, (blk_cell BK154.out 0).trans rfl, (blk_cell BK154.out 1).trans rfl⟩ (fun hHeld => ?_)
             generalize w95.drew = w96 at HO_6 HO_9 HO_173000 HO_178000 BK153 BK154 BK172 BK177 HB hHeld ⊢
             refine zt 0 (some 75) (zl 6 1) ?_
             refine zt 2 (some 77) (zl 6 5) ?_
             refine zo 1 (some 76) (zl 6 7) (fun K hK => ?_)
             refine zgo #[.agg #[.slice A0_0 l0_0.length c0_0, .int .i64 a0_1]] Try.func48 ?_
             with_reducible refine (laws_toTree.calls kj34 _ _ l0_0 a0_1 t200 t203 _ (zk (Kd.C_below HR0_0.out HB.out)) HC0_0.out A88.out).mono ?_
             rintro e w97 ⟨v201, rfl, ho0, hb⟩
             refine ⟨_, rfl, ?_⟩
             have HO202 := zm (Kd.R_lower (Kd.R_new' (Kd.R_new' (Kd.R_new' (Kd.R_new' ho0 (Kd.R_lt (zr HO_6))) (Kd.R_lt (zr HO_9))) (Kd.R_lt (zr HO_173000))) (Kd.R_lt (zr HO_178000))) (below_size zB))
             replace HO_6 := zm (Kd.R_elder' (zr HO_6) (Kd.R_base ho0) hb)
             replace HO_9 := zm (Kd.R_elder' (zr HO_9) (Kd.R_base ho0) hb)
             replace HO_173000 := zm (Kd.R_elder' (zr HO_173000) (Kd.R_base ho0) hb)
             replace HO_178000 := zm (Kd.R_elder' (zr HO_178000) (Kd.R_base ho0) hb)
             replace BK153 := zm (blk_below (zb BK153) hb)
             replace BK154 := zm (blk_below (zb BK154) hb)
             replace BK172 := zm (blk_below (zb BK172) hb)
             replace BK177 := zm (blk_below (zb BK177) hb)
             replace HB := zm (below_step zB hb)
             (try clear hb)
             (try clear hb2)
             (try clear hk)
             (try clear hi)
             (try clear ho0)
             refine hK.out _ _ ⟨(blk_cell BK153.out 0).trans rfl, (blk_cell BK153.out 1).trans rfl, (blk_cell BK154.out 0).trans rfl, (blk_cell BK154.out 1).trans rfl⟩ (fun hHeld => ?_)
             clear hK K
             refine zn ?_
             refine zo 3 (some 78) (zl 6 15) (fun K hK => ?_)
             refine zgo #[.agg #[.slice A1_0 l1_0.length c1_0, .int .i64 a1_1]] Try.func48 ?_
             with_reducible refine (laws_toTree.calls kj34 _ _ l1_0 a1_1 t204 t207 _ (zk (Kd.C_below HR1_0.out HB.out)) HC1_0.out A89.out).mono ?_
             rintro e w98 ⟨v205, rfl, ho0, hb⟩
             refine ⟨_, rfl, ?_⟩
             have HO206 := zm (Kd.R_lower (Kd.R_new' (Kd.R_new' (Kd.R_new' (Kd.R_new' (Kd.R_new' ho0 (Kd.R_lt (zr HO_6))) (Kd.R_lt (zr HO_9))) (Kd.R_lt (zr HO_173000))) (Kd.R_lt (zr HO_178000))) (Kd.R_lt (zr HO202))) (below_size zB))
             replace HO_6 := zm (Kd.R_elder' (zr HO_6) (Kd.R_base ho0) hb)
             replace HO_9 := zm (Kd.R_elder' (zr HO_9) (Kd.R_base ho0) hb)
             replace HO_173000 := zm (Kd.R_elder' (zr HO_173000) (Kd.R_base ho0) hb)
             replace HO_178000 := zm (Kd.R_elder' (zr HO_178000) (Kd.R_base ho0) hb)
             replace HO202 := zm (Kd.R_elder' (zr HO202) (Kd.R_base ho0) hb)
             replace BK153 := zm (blk_below (zb BK153) hb)
             replace BK154 := zm (blk_below (zb BK154) hb)
             replace BK172 := zm (blk_below (zb BK172) hb)
             replace BK177 := zm (blk_below (zb BK177) hb)
             replace HB := zm (below_step zB hb)
             (try clear hb)
             (try clear hb2)
             (try clear hk)
             (try clear hi)
             (try clear ho0)
             obtain ⟨Ao99, co99, eo99⟩ := Kd.R_slice HO202.out
             (first | subst eo99 | (injection eo99 with f1_ f2_ f3_; have f4_ := f1_.symm; have f5_ := f3_.symm; clear f1_ f2_ f3_; subst f4_; subst f5_))
             obtain ⟨Ao100, co100, eo100⟩ := Kd.R_slice HO206.out
             (first | subst eo100 | (injection eo100 with f1_ f2_ f3_; have f4_ := f1_.symm; have f5_ := f3_.symm; clear f1_ f2_ f3_; subst f4_; subst f5_))
             refine hK.out _ _ ⟨(blk_cell BK153.out 0).trans rfl, (blk_cell BK153.out 1).trans rfl, (blk_cell BK154.out 0).trans rfl, (blk_cell BK154.out 1).trans rfl⟩ (fun hHeld => ?_)
             clear hK K
             refine zn ?_
             refine zo 4 (some 79) (zl 6 31) (fun K hK => ?_)
             refine zgo #[.agg #[.slice Ao99 t200.length co99, .int .i64 t203], .agg #[.slice Ao100 t204.length co100, .int .i64 t207]] Try.func49 ?_
             with_reducible refine (impl_Differ.calls kj34 _ _ t200 t203 _ _ t204 t207 t208 _ ?side1 ?side2 ?side3 ?side4 A90.out).mono ?_
             (case side1 => repeat (first | exact (Kd.R_reads' HO202.out).2.2 | (with_reducible refine Kd.C_alloc ?_ _) | (with_reducible refine Kd.C_drewN ?_ _) | (with_reducible refine Kd.C_drew ?_)))
             (case side2 => exact (Kd.R_reads' HO202.out).2.1)
             (case side3 => repeat (first | exact (Kd.R_reads' HO206.out).2.2 | (with_reducible refine Kd.C_alloc ?_ _) | (with_reducible refine Kd.C_drewN ?_ _) | (with_reducible refine Kd.C_drew ?_)))
             (case side4 => exact (Kd.R_reads' HO206.out).2.1)
             rintro e w101 ⟨v209, rfl, ho0, hb⟩
             refine ⟨_, rfl, ?_⟩
             have HO210 := zm (Kd.R_lower (Kd.R_new' (Kd.R_new' (Kd.R_new' (Kd.R_new' (Kd.R_new' (Kd.R_new' ho0 (Kd.R_lt (zr HO_6))) (Kd.R_lt (zr HO_9))) (Kd.R_lt (zr HO_173000))) (Kd.R_lt (zr HO_178000))) (Kd.R_lt (zr HO202))) (Kd.R_lt (zr HO206))) (below_size zB))
             replace HO_6 := zm (Kd.R_elder' (zr HO_6) (Kd.R_base ho0) hb)
             replace HO_9 := zm (Kd.R_elder' (zr HO_9) (Kd.R_base ho0) hb)
             replace HO_173000 := zm (Kd.R_elder' (zr HO_173000) (Kd.R_base ho0) hb)
             replace HO_178000 := zm (Kd.R_elder' (zr HO_178000) (Kd.R_base ho0) hb)
             replace HO202 := zm (Kd.R_elder' (zr HO202) (Kd.R_base ho0) hb)
             replace HO206 := zm (Kd.R_elder' (zr HO206) (Kd.R_base ho0) hb)
             replace BK153 := zm (blk_below (zb BK153) hb)
             replace BK154 := zm (blk_below (zb BK154) hb)
             replace BK172 := zm (blk_below (zb BK172) hb)
             replace BK177 := zm (blk_below (zb BK177) hb)
             replace HB := zm (below_step zB hb)
             (try clear hb)
             (try clear hb2)
             (try clear hk)
             (try clear hi)
             (try clear ho0)
             refine hK.out _ _ ⟨(blk_cell BK153.out 0).trans rfl, (blk_cell BK153.out 1).trans rfl, (blk_cell BK154.out 0).trans rfl, (blk_cell BK154.out 1).trans rfl⟩ (fun hHeld => ?_)
             clear hK K
             refine zn ?_
             refine zp 5 (some 13) (zl 6 63) ?_
             refine done_ (by kernel_rfl) ?_
             obtain ⟨Ao102, co102, eo102⟩ := Kd.R_slice HO210.out
             subst eo102
             try go_wp2_with (first | ((with_reducible refine gate_callee (f := 50) rfl ?_); refine zg #[.slice Ao102 t208.length co102, .slice Ao67 t165.length co67] Try.func50 ?_; (with_reducible refine (laws_eqIntS.calls kj34 _ _ t208 _ _ t165 true _ ?side1 ?side2 ?side3 ?side4 A91.out).mono ?_); (case side1 => repeat (first | exact (Kd.R_reads' HO210.out).2.2 | (with_reducible refine Kd.C_alloc ?_ _) | (with_reducible refine Kd.C_drewN ?_ _) | (with_reducible refine Kd.C_drew ?_))); (case side2 => exact (Kd.R_reads' HO210.out).2.1); (case side3 => repeat (first | exact (Kd.R_reads' HO_6.out).2.2 | (with_reducible refine Kd.C_alloc ?_ _) | (with_reducible refine Kd.C_drewN ?_ _) | (with_reducible refine Kd.C_drew ?_))); (case side4 => exact (Kd.R_reads' HO_6.out).2.1); rintro e w' ⟨rfl, ⟨nd, rfl⟩⟩; refine ⟨_, rfl, ?_⟩) | ((with_reducible refine gate_callee (f := 54) rfl ?_); refine goesL_ (some 86) rfl rfl Try.func54 (by kernel_rfl) rfl #[.slice Ao66 t198.length co66, .int .i64 1] rfl (by (try simp only [List.map_toArray, List.map_cons, List.map_nil]); first | done | (rw [show t198.length = t178.length from (Kd.R_reads' HO_9.out).1.symm] <;> rfl) | rfl | (simp only [List.length_drop, List.length_take]; rfl)) ?_; (with_reducible refine (laws_heldIntS.calls kj34 _ _ t198 1 t212 _ ?side1 ?side2 A93.out).mono ?_); (case side1 => repeat (first | exact (Kd.R_reads' HO_9.out).2.2 | (with_reducible refine Kd.C_alloc ?_ _) | (with_reducible refine Kd.C_drewN ?_ _) | (with_reducible refine Kd.C_drew ?_))); (case side2 => rw [show t198.length = t178.length from (Kd.R_reads' HO_9.out).1.symm]; exact (Kd.R_reads' HO_9.out).2.1); rintro e w' ⟨rfl, ⟨nd, rfl⟩⟩; refine ⟨_, rfl, ?_⟩))
             go_ret
             exact ⟨zE, zB⟩
            ·rw [if_neg c94] at H
             have c94b0 : decide (t212 < 0) = false := decide_eq_false c94
             clear c94
             by_cases c103 : t212 = t197
             ·rw [if_pos c103] at H
              have c103b0 : (t212 == t197) = true := beq_iff_eq.mpr c103
              have c103b1 : (t212 != t197) = false := bne_eq_false_iff_eq.mpr c103
              clear c103
              obtain rfl := Option.some.inj H
              try go_wp2_with (first | ((with_reducible refine gate_callee (f := 53) rfl ?_); refine zg #[.slice Ao66 t178.length co66, .int .i64 1] Try.func53 ?_; (with_reducible refine (laws_markIntS.calls kj34 (fun k_ => some k_ = (.slice Ao66 t178.length co66 : Value).ownBlock) (.slice Ao66 t178.length co66) t178 1 t197 t198 w _ zB ?side2 A83.out).mono ?_); (case side2 => exact Kd.R_tight rfl HO_9.out); rintro e w104 ⟨rfl, hy0, hb, hkp⟩; refine ⟨_, rfl, ?_⟩; replace HO_6 := zm (Kd.R_mono (ok' := fun k_ => some k_ ≠ (.slice Ao66 t178.length co66 : Value).ownBlock ∧ some k_ ≠ (.slice Ao52 t193.length co52 : Value).ownBlock ∧ some k_ ≠ (.slice Ao59 t195.length co59 : Value).ownBlock) (Kd.R_keptB (HO_6.out) hkp (fun k_ hk_ hs_ => (hk_.1) hs_)) (fun k_ hk_ => ⟨hk_.1.1, hk_.1.2.1, hk_.1.2.2⟩)); replace HO_173000 := zm (Kd.R_mono (ok' := fun k_ => some k_ ≠ (.slice Ao67 t165.length co67 : Value).ownBlock ∧ some k_ ≠ (.slice Ao66 t178.length co66 : Value).ownBlock ∧ some k_ ≠ (.slice Ao59 t195.length co59 : Value).ownBlock) (Kd.R_keptB (HO_173000.out) hkp (fun k_ hk_ hs_ => (hk_.2.1) hs_)) (fun k_ hk_ => ⟨hk_.1.1, hk_.1.2.1, hk_.1.2.2⟩)); replace HO_178000 := zm (Kd.R_mono (ok' := fun k_ => some k_ ≠ (.slice Ao67 t165.length co67 : Value).ownBlock ∧ some k_ ≠ (.slice Ao66 t178.length co66 : Value).ownBlock ∧ some k_ ≠ (.slice Ao52 t193.length co52 : Value).ownBlock) (Kd.R_keptB (HO_178000.out) hkp (fun k_ hk_ hs_ => (hk_.2.1) hs_)) (fun k_ hk_ => ⟨hk_.1.1, hk_.1.2.1, hk_.1.2.2⟩)); replace BK153 := zm (blk_kept (zb BK153) hkp (fun hs_ => (fun e_ => (Kd.R_ne HO_9.out BK153.out (by decide)) e_) hs_)); replace BK154 := zm (blk_kept (zb BK154) hkp (fun hs_ => (fun e_ => (Kd.R_ne HO_9.out BK154.out (by decide)) e_) hs_)); replace BK172 := zm (blk_kept (zb BK172) hkp (fun hs_ => (fun e_ => (Kd.R_ne HO_9.out BK172.out (by decide)) e_) hs_)); replace BK177 := zm (blk_kept (zb BK177) hkp (fun hs_ => (fun e_ => (Kd.R_ne HO_9.out BK177.out (by decide)) e_) hs_)); replace HO_9 := zm (Kd.R_reok rfl hy0 (fun k_ e_ => HO_9.out.1 k_ e_)); replace HB := zm (hb); clear hb hkp hy0) | ((with_reducible refine gate_callee (f := 54) rfl ?_); refine goesL_ (some 69) rfl rfl Try.func54 (by kernel_rfl) rfl #[.slice Ao66 t198.length co66, .int .i64 1] rfl (by (try simp only [List.map_toArray, List.map_cons, List.map_nil]); first | done | (rw [show t198.length = t178.length from (Kd.R_reads' HO_9.out).1.symm] <;> rfl) | rfl | (simp only [List.length_drop, List.length_take]; rfl)) ?_; (with_reducible refine (laws_heldIntS.calls kj34 _ _ t198 1 t199 _ ?side1 ?side2 A84.out).mono ?_); (case side1 => repeat (first | exact (Kd.R_reads' HO_9.out).2.2 | (with_reducible refine Kd.C_alloc ?_ _) | (with_reducible refine Kd.C_drewN ?_ _) | (with_reducible refine Kd.C_drew ?_))); (case side2 => rw [show t198.length = t178.length from (Kd.R_reads' HO_9.out).1.symm]; exact (Kd.R_reads' HO_9.out).2.1); rintro e w' ⟨rfl, ⟨nd, rfl⟩⟩; refine ⟨_, rfl, ?_⟩))
              (try (rw [drewN_self w104]; generalize hq_ : World.drewN w104 _ = w104; have n0_ := zm (Kd.R_at hq_ HO_6.out); have n1_ := zm (Kd.R_at hq_ HO_9.out); have n2_ := zm (Kd.R_at hq_ HO_173000.out); have n3_ := zm (Kd.R_at hq_ HO_178000.out); have n4_ := zm (blk_at hq_ BK153.out); have n5_ := zm (blk_at hq_ BK154.out); have n6_ := zm (blk_at hq_ BK172.out); have n7_ := zm (blk_at hq_ BK177.out); have n8_ := zm (below_at hq_ HB.out); clear hq_ HO_6 HO_9 HO_173000 HO_178000 BK153 BK154 BK172 BK177 HB; have HO_6 := n0_; have HO_9 := n1_; have HO_173000 := n2_; have HO_178000 := n3_; have BK153 := n4_; have BK154 := n5_; have BK172 := n6_; have BK177 := n7_; have HB := n8_; clear n0_ n1_ n2_ n3_ n4_ n5_ n6_ n7_ n8_))
              replace HO_6 := zm (Kd.R_drew HO_6.out)
              replace HO_9 := zm (Kd.R_drew HO_9.out)
              replace HO_173000 := zm (Kd.R_drew HO_173000.out)
              replace HO_178000 := zm (Kd.R_drew HO_178000.out)
              replace BK153 := zm (blk_drew BK153.out)
              replace BK154 := zm (blk_drew BK154.out)
              replace BK172 := zm (blk_drew BK172.out)
              replace BK177 := zm (blk_drew BK177.out)
              replace HB := zm (below_drew1 HB.out)
              refine start_ (n := 6) (S := fun w' => w'.cell? ⟨gb153, 0, none⟩ = some (.slice A0_0 l0_0.length c0_0) ∧ w'.cell? ⟨gb153, 1, none⟩ = some (.int .i64 a0_1) ∧ w'.cell? ⟨gb154, 0, none⟩ = some (.slice A1_0 l1_0.length c1_0) ∧ w'.cell? ⟨gb154, 1, none⟩ = some (.int .i64 a1_1)) (ds := []) (zl 6 0) (by kernel_rfl) rfl rfl ⟨(blk_cell BK153.out 0).trans rfl, (blk_cell BK153.out 1).trans rfl, (blk_cell BK154.out 0).trans rfl, (blk_cell BK154.out 1).trans rfl⟩ (fun hHeld => ?_)
              generalize w104.drew = w105 at HO_6 HO_9 HO_173000 HO_178000 BK153 BK154 BK172 BK177 HB hHeld ⊢
              refine zt 0 (some 75) (zl 6 1) ?_
              refine zt 2 (some 77) (zl 6 5) ?_
              refine zo 1 (some 76) (zl 6 7) (fun K hK => ?_)
              refine zgo #[.agg #[.slice A0_0 l0_0.length c0_0, .int .i64 a0_1]] Try.func48 ?_
              with_reducible refine (laws_toTree.calls kj34 _ _ l0_0 a0_1 t200 t203 _ (zk (Kd.C_below HR0_0.out HB.out)) HC0_0.out A88.out).mono ?_
              rintro e w106 ⟨v201, rfl, ho0, hb⟩
              refine ⟨_, rfl, ?_⟩
              have HO202 := zm (Kd.R_lower (Kd.R_new' (Kd.R_new' (Kd.R_new' (Kd.R_new' ho0 (Kd.R_lt (zr HO_6))) (Kd.R_lt (zr HO_9))) (Kd.R_lt (zr HO_173000))) (Kd.R_lt (zr HO_178000))) (below_size zB))
              replace HO_6 := zm (Kd.R_elder' (zr HO_6) (Kd.R_base ho0) hb)
              replace HO_9 := zm (Kd.R_elder' (zr HO_9) (Kd.R_base ho0) hb)
              replace HO_173000 := zm (Kd.R_elder' (zr HO_173000) (Kd.R_base ho0) hb)
              replace HO_178000 := zm (Kd.R_elder' (zr HO_178000) (Kd.R_base ho0) hb)
              replace BK153 := zm (blk_below (zb BK153) hb)
              replace BK154 := zm (blk_below (zb BK154) hb)
              replace BK172 := zm (blk_below (zb BK172) hb)
              replace BK177 := zm (blk_below (zb BK177) hb)
              replace HB := zm (below_step zB hb)
              (try clear hb)
              (try clear hb2)
              (try clear hk)
              (try clear hi)
              (try clear ho0)
              refine hK.out _ _ ⟨(blk_cell BK153.out 0).trans rfl, (blk_cell BK153.out 1).trans rfl, (blk_cell BK154.out 0).trans rfl, (blk_cell BK154.out 1).trans rfl⟩ (fun hHeld => ?_)
              clear hK K
              refine zn ?_
              refine zo 3 (some 78) (zl 6 15) (fun K hK => ?_)
              refine zgo #[.agg #[.slice A1_0 l1_0.length c1_0, .int .i64 a1_1]] Try.func48 ?_
              with_reducible refine (laws_toTree.calls kj34 _ _ l1_0 a1_1 t204 t207 _ (zk (Kd.C_below HR1_0.out HB.out)) HC1_0.out A89.out).mono ?_
              rintro e w107 ⟨v205, rfl, ho0, hb⟩
              refine ⟨_, rfl, ?_⟩
              have HO206 := zm (Kd.R_lower (Kd.R_new' (Kd.R_new' (Kd.R_new' (Kd.R_new' (Kd.R_new' ho0 (Kd.R_lt (zr HO_6))) (Kd.R_lt (zr HO_9))) (Kd.R_lt (zr HO_173000))) (Kd.R_lt (zr HO_178000))) (Kd.R_lt (zr HO202))) (below_size zB))
              replace HO_6 := zm (Kd.R_elder' (zr HO_6) (Kd.R_base ho0) hb)
              replace HO_9 := zm (Kd.R_elder' (zr HO_9) (Kd.R_base ho0) hb)
              replace HO_173000 := zm (Kd.R_elder' (zr HO_173000) (Kd.R_base ho0) hb)
              replace HO_178000 := zm (Kd.R_elder' (zr HO_178000) (Kd.R_base ho0) hb)
              replace HO202 := zm (Kd.R_elder' (zr HO202) (Kd.R_base ho0) hb)
              replace BK153 := zm (blk_below (zb BK153) hb)
              replace BK154 := zm (blk_below (zb BK154) hb)
              replace BK172 := zm (blk_below (zb BK172) hb)
              replace BK177 := zm (blk_below (zb BK177) hb)
              replace HB := zm (below_step zB hb)
              (try clear hb)
              (try clear hb2)
              (try clear hk)
              (try clear hi)
              (try clear ho0)
              obtain ⟨Ao108, co108, eo108⟩ := Kd.R_slice HO202.out
              (first | subst eo108 | (injection eo108 with f1_ f2_ f3_; have f4_ := f1_.symm; have f5_ := f3_.symm; clear f1_ f2_ f3_; subst f4_; subst f5_))
              obtain ⟨Ao109, co109, eo109⟩ := Kd.R_slice HO206.out
              (first | subst eo109 | (injection eo109 with f1_ f2_ f3_; have f4_ := f1_.symm; have f5_ := f3_.symm; clear f1_ f2_ f3_; subst f4_; subst f5_))
              refine hK.out _ _ ⟨(blk_cell BK153.out 0).trans rfl, (blk_cell BK153.out 1).trans rfl, (blk_cell BK154.out 0).trans rfl, (blk_cell BK154.out 1).trans rfl⟩ (fun hHeld => ?_)
              clear hK K
              refine zn ?_
              refine zo 4 (some 79) (zl 6 31) (fun K hK => ?_)
              refine zgo #[.agg #[.slice Ao108 t200.length co108, .int .i64 t203], .agg #[.slice Ao109 t204.length co109, .int .i64 t207]] Try.func49 ?_
              with_reducible refine (impl_Differ.calls kj34 _ _ t200 t203 _ _ t204 t207 t208 _ ?side1 ?side2 ?side3 ?side4 A90.out).mono ?_
              (case side1 => repeat (first | exact (Kd.R_reads' HO202.out).2.2 | (with_reducible refine Kd.C_alloc ?_ _) | (with_reducible refine Kd.C_drewN ?_ _) | (with_reducible refine Kd.C_drew ?_)))
              (case side2 => exact (Kd.R_reads' HO202.out).2.1)
              (case side3 => repeat (first | exact (Kd.R_reads' HO206.out).2.2 | (with_reducible refine Kd.C_alloc ?_ _) | (with_reducible refine Kd.C_drewN ?_ _) | (with_reducible refine Kd.C_drew ?_)))
              (case side4 => exact (Kd.R_reads' HO206.out).2.1)
              rintro e w110 ⟨v209, rfl, ho0, hb⟩
              refine ⟨_, rfl, ?_⟩
              have HO210 := zm (Kd.R_lower (Kd.R_new' (Kd.R_new' (Kd.R_new' (Kd.R_new' (Kd.R_new' (Kd.R_new' ho0 (Kd.R_lt (zr HO_6))) (Kd.R_lt (zr HO_9))) (Kd.R_lt (zr HO_173000))) (Kd.R_lt (zr HO_178000))) (Kd.R_lt (zr HO202))) (Kd.R_lt (zr HO206))) (below_size zB))
              replace HO_6 := zm (Kd.R_elder' (zr HO_6) (Kd.R_base ho0) hb)
              replace HO_9 := zm (Kd.R_elder' (zr HO_9) (Kd.R_base ho0) hb)
              replace HO_173000 := zm (Kd.R_elder' (zr HO_173000) (Kd.R_base ho0) hb)
              replace HO_178000 := zm (Kd.R_elder' (zr HO_178000) (Kd.R_base ho0) hb)
              replace HO202 := zm (Kd.R_elder' (zr HO202) (Kd.R_base ho0) hb)
              replace HO206 := zm (Kd.R_elder' (zr HO206) (Kd.R_base ho0) hb)
              replace BK153 := zm (blk_below (zb BK153) hb)
              replace BK154 := zm (blk_below (zb BK154) hb)
              replace BK172 := zm (blk_below (zb BK172) hb)
              replace BK177 := zm (blk_below (zb BK177) hb)
              replace HB := zm (below_step zB hb)
              (try clear hb)
              (try clear hb2)
              (try clear hk)
              (try clear hi)
              (try clear ho0)
              refine hK.out _ _ ⟨(blk_cell BK153.out 0).trans rfl, (blk_cell BK153.out 1).trans rfl, (blk_cell BK154.out 0).trans rfl, (blk_cell BK154.out 1).trans rfl⟩ (fun hHeld => ?_)
              clear hK K
              refine zn ?_
              refine zp 5 (some 13) (zl 6 63) ?_
              refine done_ (by kernel_rfl) ?_
              obtain ⟨Ao111, co111, eo111⟩ := Kd.R_slice HO210.out
              subst eo111
              try go_wp2_with (first | ((with_reducible refine gate_callee (f := 50) rfl ?_); refine zg #[.slice Ao111 t208.length co111, .slice Ao67 t165.length co67] Try.func50 ?_; (with_reducible refine (laws_eqIntS.calls kj34 _ _ t208 _ _ t165 true _ ?side1 ?side2 ?side3 ?side4 A91.out).mono ?_); (case side1 => repeat (first | exact (Kd.R_reads' HO210.out).2.2 | (with_reducible refine Kd.C_alloc ?_ _) | (with_reducible refine Kd.C_drewN ?_ _) | (with_reducible refine Kd.C_drew ?_))); (case side2 => exact (Kd.R_reads' HO210.out).2.1); (case side3 => repeat (first | exact (Kd.R_reads' HO_6.out).2.2 | (with_reducible refine Kd.C_alloc ?_ _) | (with_reducible refine Kd.C_drewN ?_ _) | (with_reducible refine Kd.C_drew ?_))); (case side4 => exact (Kd.R_reads' HO_6.out).2.1); rintro e w' ⟨rfl, ⟨nd, rfl⟩⟩; refine ⟨_, rfl, ?_⟩) | ((with_reducible refine gate_callee (f := 54) rfl ?_); refine goesL_ (some 86) rfl rfl Try.func54 (by kernel_rfl) rfl #[.slice Ao66 t198.length co66, .int .i64 1] rfl (by (try simp only [List.map_toArray, List.map_cons, List.map_nil]); first | done | (rw [show t198.length = t178.length from (Kd.R_reads' HO_9.out).1.symm] <;> rfl) | rfl | (simp only [List.length_drop, List.length_take]; rfl)) ?_; (with_reducible refine (laws_heldIntS.calls kj34 _ _ t198 1 t212 _ ?side1 ?side2 A93.out).mono ?_); (case side1 => repeat (first | exact (Kd.R_reads' HO_9.out).2.2 | (with_reducible refine Kd.C_alloc ?_ _) | (with_reducible refine Kd.C_drewN ?_ _) | (with_reducible refine Kd.C_drew ?_))); (case side2 => rw [show t198.length = t178.length from (Kd.R_reads' HO_9.out).1.symm]; exact (Kd.R_reads' HO_9.out).2.1); rintro e w' ⟨rfl, ⟨nd, rfl⟩⟩; refine ⟨_, rfl, ?_⟩))
              go_ret
              exact ⟨zE, zB⟩
             ·rw [if_neg c103] at H
              have c103b0 : (t212 == t197) = false := beq_eq_false_iff_ne.mpr c103
              have c103b1 : (t212 != t197) = true := bne_iff_ne.mpr c103
              obtain rfl := Option.some.inj H
              try go_wp2_with (first | ((with_reducible refine gate_callee (f := 53) rfl ?_); refine zg #[.slice Ao66 t178.length co66, .int .i64 1] Try.func53 ?_; (with_reducible refine (laws_markIntS.calls kj34 (fun k_ => some k_ = (.slice Ao66 t178.length co66 : Value).ownBlock) (.slice Ao66 t178.length co66) t178 1 t197 t198 w _ zB ?side2 A83.out).mono ?_); (case side2 => exact Kd.R_tight rfl HO_9.out); rintro e w112 ⟨rfl, hy0, hb, hkp⟩; refine ⟨_, rfl, ?_⟩; replace HO_6 := zm (Kd.R_mono (ok' := fun k_ => some k_ ≠ (.slice Ao66 t178.length co66 : Value).ownBlock ∧ some k_ ≠ (.slice Ao52 t193.length co52 : Value).ownBlock ∧ some k_ ≠ (.slice Ao59 t195.length co59 : Value).ownBlock) (Kd.R_keptB (HO_6.out) hkp (fun k_ hk_ hs_ => (hk_.1) hs_)) (fun k_ hk_ => ⟨hk_.1.1, hk_.1.2.1, hk_.1.2.2⟩)); replace HO_173000 := zm (Kd.R_mono (ok' := fun k_ => some k_ ≠ (.slice Ao67 t165.length co67 : Value).ownBlock ∧ some k_ ≠ (.slice Ao66 t178.length co66 : Value).ownBlock ∧ some k_ ≠ (.slice Ao59 t195.length co59 : Value).ownBlock) (Kd.R_keptB (HO_173000.out) hkp (fun k_ hk_ hs_ => (hk_.2.1) hs_)) (fun k_ hk_ => ⟨hk_.1.1, hk_.1.2.1, hk_.1.2.2⟩)); replace HO_178000 := zm (Kd.R_mono (ok' := fun k_ => some k_ ≠ (.slice Ao67 t165.length co67 : Value).ownBlock ∧ some k_ ≠ (.slice Ao66 t178.length co66 : Value).ownBlock ∧ some k_ ≠ (.slice Ao52 t193.length co52 : Value).ownBlock) (Kd.R_keptB (HO_178000.out) hkp (fun k_ hk_ hs_ => (hk_.2.1) hs_)) (fun k_ hk_ => ⟨hk_.1.1, hk_.1.2.1, hk_.1.2.2⟩)); replace BK153 := zm (blk_kept (zb BK153) hkp (fun hs_ => (fun e_ => (Kd.R_ne HO_9.out BK153.out (by decide)) e_) hs_)); replace BK154 := zm (blk_kept (zb BK154) hkp (fun hs_ => (fun e_ => (Kd.R_ne HO_9.out BK154.out (by decide)) e_) hs_)); replace BK172 := zm (blk_kept (zb BK172) hkp (fun hs_ => (fun e_ => (Kd.R_ne HO_9.out BK172.out (by decide)) e_) hs_)); replace BK177 := zm (blk_kept (zb BK177) hkp (fun hs_ => (fun e_ => (Kd.R_ne HO_9.out BK177.out (by decide)) e_) hs_)); replace HO_9 := zm (Kd.R_reok rfl hy0 (fun k_ e_ => HO_9.out.1 k_ e_)); replace HB := zm (hb); clear hb hkp hy0) | ((with_reducible refine gate_callee (f := 54) rfl ?_); refine goesL_ (some 69) rfl rfl Try.func54 (by kernel_rfl) rfl #[.slice Ao66 t198.length co66, .int .i64 1] rfl (by (try simp only [List.map_toArray, List.map_cons, List.map_nil]); first | done | (rw [show t198.length = t178.length from (Kd.R_reads' HO_9.out).1.symm] <;> rfl) | rfl | (simp only [List.length_drop, List.length_take]; rfl)) ?_; (with_reducible refine (laws_heldIntS.calls kj34 _ _ t198 1 t199 _ ?side1 ?side2 A84.out).mono ?_); (case side1 => repeat (first | exact (Kd.R_reads' HO_9.out).2.2 | (with_reducible refine Kd.C_alloc ?_ _) | (with_reducible refine Kd.C_drewN ?_ _) | (with_reducible refine Kd.C_drew ?_))); (case side2 => rw [show t198.length = t178.length from (Kd.R_reads' HO_9.out).1.symm]; exact (Kd.R_reads' HO_9.out).2.1); rintro e w' ⟨rfl, ⟨nd, rfl⟩⟩; refine ⟨_, rfl, ?_⟩))
              (try (rw [drewN_self w112]; generalize hq_ : World.drewN w112 _ = w112; have n0_ := zm (Kd.R_at hq_ HO_6.out); have n1_ := zm (Kd.R_at hq_ HO_9.out); have n2_ := zm (Kd.R_at hq_ HO_173000.out); have n3_ := zm (Kd.R_at hq_ HO_178000.out); have n4_ := zm (blk_at hq_ BK153.out); have n5_ := zm (blk_at hq_ BK154.out); have n6_ := zm (blk_at hq_ BK172.out); have n7_ := zm (blk_at hq_ BK177.out); have n8_ := zm (below_at hq_ HB.out); clear hq_ HO_6 HO_9 HO_173000 HO_178000 BK153 BK154 BK172 BK177 HB; have HO_6 := n0_; have HO_9 := n1_; have HO_173000 := n2_; have HO_178000 := n3_; have BK153 := n4_; have BK154 := n5_; have BK172 := n6_; have BK177 := n7_; have HB := n8_; clear n0_ n1_ n2_ n3_ n4_ n5_ n6_ n7_ n8_))
              replace HO_6 := zm (Kd.R_drew HO_6.out)
              replace HO_9 := zm (Kd.R_drew HO_9.out)
              replace HO_173000 := zm (Kd.R_drew HO_173000.out)
              replace HO_178000 := zm (Kd.R_drew HO_178000.out)
              replace BK153 := zm (blk_drew BK153.out)
              replace BK154 := zm (blk_drew BK154.out)
              replace BK172 := zm (blk_drew BK172.out)
              replace BK177 := zm (blk_drew BK177.out)
              replace HB := zm (below_drew1 HB.out)
              refine start_ (n := 6) (S := fun w' => w'.cell? ⟨gb153, 0, none⟩ = some (.slice A0_0 l0_0.length c0_0) ∧ w'.cell? ⟨gb153, 1, none⟩ = some (.int .i64 a0_1) ∧ w'.cell? ⟨gb154, 0, none⟩ = some (.slice A1_0 l1_0.length c1_0) ∧ w'.cell? ⟨gb154, 1, none⟩ = some (.int .i64 a1_1)) (ds := []) (zl 6 0) (by kernel_rfl) rfl rfl ⟨(blk_cell BK153.out 0).trans rfl, (blk_cell BK153.out 1).trans rfl, (blk_cell BK154.out 0).trans rfl, (blk_cell BK154.out 1).trans rfl⟩ (fun hHeld => ?_)
              generalize w112.drew = w113 at HO_6 HO_9 HO_173000 HO_178000 BK153 BK154 BK172 BK177 HB hHeld ⊢
              refine zt 0 (some 75) (zl 6 1) ?_
              refine zt 2 (some 77) (zl 6 5) ?_
              refine zo 1 (some 76) (zl 6 7) (fun K hK => ?_)
              refine zgo #[.agg #[.slice A0_0 l0_0.length c0_0, .int .i64 a0_1]] Try.func48 ?_
              with_reducible refine (laws_toTree.calls kj34 _ _ l0_0 a0_1 t200 t203 _ (zk (Kd.C_below HR0_0.out HB.out)) HC0_0.out A88.out).mono ?_
              rintro e w114 ⟨v201, rfl, ho0, hb⟩
              refine ⟨_, rfl, ?_⟩
              have HO202 := zm (Kd.R_lower (Kd.R_new' (Kd.R_new' (Kd.R_new' (Kd.R_new' ho0 (Kd.R_lt (zr HO_6))) (Kd.R_lt (zr HO_9))) (Kd.R_lt (zr HO_173000))) (Kd.R_lt (zr HO_178000))) (below_size zB))
              replace HO_6 := zm (Kd.R_elder' (zr HO_6) (Kd.R_base ho0) hb)
              replace HO_9 := zm (Kd.R_elder' (zr HO_9) (Kd.R_base ho0) hb)
              replace HO_173000 := zm (Kd.R_elder' (zr HO_173000) (Kd.R_base ho0) hb)
              replace HO_178000 := zm (Kd.R_elder' (zr HO_178000) (Kd.R_base ho0) hb)
              replace BK153 := zm (blk_below (zb BK153) hb)
              replace BK154 := zm (blk_below (zb BK154) hb)
              replace BK172 := zm (blk_below (zb BK172) hb)
              replace BK177 := zm (blk_below (zb BK177) hb)
              replace HB := zm (below_step zB hb)
              (try clear hb)
              (try clear hb2)
              (try clear hk)
              (try clear hi)
              (try clear ho0)
              refine hK.out _ _ ⟨(blk_cell BK153.out 0).trans rfl, (blk_cell BK153.out 1).trans rfl, (blk_cell BK154.out 0).trans rfl, (blk_cell BK154.out 1).trans rfl⟩ (fun hHeld => ?_)
              clear hK K
              refine zn ?_
              refine zo 3 (some 78) (zl 6 15) (fun K hK => ?_)
              refine zgo #[.agg #[.slice A1_0 l1_0.length c1_0, .int .i64 a1_1]] Try.func48 ?_
              with_reducible refine (laws_toTree.calls kj34 _ _ l1_0 a1_1 t204 t207 _ (zk (Kd.C_below HR1_0.out HB.out)) HC1_0.out A89.out).mono ?_
              rintro e w115 ⟨v205, rfl, ho0, hb⟩
              refine ⟨_, rfl, ?_⟩
              have HO206 := zm (Kd.R_lower (Kd.R_new' (Kd.R_new' (Kd.R_new' (Kd.R_new' (Kd.R_new' ho0 (Kd.R_lt (zr HO_6))) (Kd.R_lt (zr HO_9))) (Kd.R_lt (zr HO_173000))) (Kd.R_lt (zr HO_178000))) (Kd.R_lt (zr HO202))) (below_size zB))
              replace HO_6 := zm (Kd.R_elder' (zr HO_6) (Kd.R_base ho0) hb)
              replace HO_9 := zm (Kd.R_elder' (zr HO_9) (Kd.R_base ho0) hb)
              replace HO_173000 := zm (Kd.R_elder' (zr HO_173000) (Kd.R_base ho0) hb)
              replace HO_178000 := zm (Kd.R_elder' (zr HO_178000) (Kd.R_base ho0) hb)
              replace HO202 := zm (Kd.R_elder' (zr HO202) (Kd.R_base ho0) hb)
              replace BK153 := zm (blk_below (zb BK153) hb)
              replace BK154 := zm (blk_below (zb BK154) hb)
              replace BK172 := zm (blk_below (zb BK172) hb)
              replace BK177 := zm (blk_below (zb BK177) hb)
              replace HB := zm (below_step zB hb)
              (try clear hb)
              (try clear hb2)
              (try clear hk)
              (try clear hi)
              (try clear ho0)
              obtain ⟨Ao116, co116, eo116⟩ := Kd.R_slice HO202.out
              (first | subst eo116 | (injection eo116 with f1_ f2_ f3_; have f4_ := f1_.symm; have f5_ := f3_.symm; clear f1_ f2_ f3_; subst f4_; subst f5_))
              obtain ⟨Ao117, co117, eo117⟩ := Kd.R_slice HO206.out
              (first | subst eo117 | (injection eo117 with f1_ f2_ f3_; have f4_ := f1_.symm; have f5_ := f3_.symm; clear f1_ f2_ f3_; subst f4_; subst f5_))
              refine hK.out _ _ ⟨(blk_cell BK153.out 0).trans rfl, (blk_cell BK153.out 1).trans rfl, (blk_cell BK154.out 0).trans rfl, (blk_cell BK154.out 1).trans rfl⟩ (fun hHeld => ?_)
              clear hK K
              refine zn ?_
              refine zo 4 (some 79) (zl 6 31) (fun K hK => ?_)
              refine zgo #[.agg #[.slice Ao116 t200.length co116, .int .i64 t203], .agg #[.slice Ao117 t204.length co117, .int .i64 t207]] Try.func49 ?_
              with_reducible refine (impl_Differ.calls kj34 _ _ t200 t203 _ _ t204 t207 t208 _ ?side1 ?side2 ?side3 ?side4 A90.out).mono ?_
              (case side1 => repeat (first | exact (Kd.R_reads' HO202.out).2.2 | (with_reducible refine Kd.C_alloc ?_ _) | (with_reducible refine Kd.C_drewN ?_ _) | (with_reducible refine Kd.C_drew ?_)))
              (case side2 => exact (Kd.R_reads' HO202.out).2.1)
              (case side3 => repeat (first | exact (Kd.R_reads' HO206.out).2.2 | (with_reducible refine Kd.C_alloc ?_ _) | (with_reducible refine Kd.C_drewN ?_ _) | (with_reducible refine Kd.C_drew ?_)))
              (case side4 => exact (Kd.R_reads' HO206.out).2.1)
              rintro e w118 ⟨v209, rfl, ho0, hb⟩
              refine ⟨_, rfl, ?_⟩
              have HO210 := zm (Kd.R_lower (Kd.R_new' (Kd.R_new' (Kd.R_new' (Kd.R_new' (Kd.R_new' (Kd.R_new' ho0 (Kd.R_lt (zr HO_6))) (Kd.R_lt (zr HO_9))) (Kd.R_lt (zr HO_173000))) (Kd.R_lt (zr HO_178000))) (Kd.R_lt (zr HO202))) (Kd.R_lt (zr HO206))) (below_size zB))
              replace HO_6 := zm (Kd.R_elder' (zr HO_6) (Kd.R_base ho0) hb)
              replace HO_9 := zm (Kd.R_elder' (zr HO_9) (Kd.R_base ho0) hb)
              replace HO_173000 := zm (Kd.R_elder' (zr HO_173000) (Kd.R_base ho0) hb)
              replace HO_178000 := zm (Kd.R_elder' (zr HO_178000) (Kd.R_base ho0) hb)
              replace HO202 := zm (Kd.R_elder' (zr HO202) (Kd.R_base ho0) hb)
              replace HO206 := zm (Kd.R_elder' (zr HO206) (Kd.R_base ho0) hb)
              replace BK153 := zm (blk_below (zb BK153) hb)
              replace BK154 := zm (blk_below (zb BK154) hb)
              replace BK172 := zm (blk_below (zb BK172) hb)
              replace BK177 := zm (blk_below (zb BK177) hb)
              replace HB := zm (below_step zB hb)
              (try clear hb)
              (try clear hb2)
              (try clear hk)
              (try clear hi)
              (try clear ho0)
              refine hK.out _ _ ⟨(blk_cell BK153.out 0).trans rfl, (blk_cell BK153.out 1).trans rfl, (blk_cell BK154.out 0).trans rfl, (blk_cell BK154.out 1).trans rfl⟩ (fun hHeld => ?_)
              clear hK K
              refine zn ?_
              refine zp 5 (some 13) (zl 6 63) ?_
              refine done_ (by kernel_rfl) ?_
              obtain ⟨Ao119, co119, eo119⟩ := Kd.R_slice HO210.out
              subst eo119
              try go_wp2_with (first | ((with_reducible refine gate_callee (f := 50) rfl ?_); refine zg #[.slice Ao119 t208.length co119, .slice Ao67 t165.length co67] Try.func50 ?_; (with_reducible refine (laws_eqIntS.calls kj34 _ _ t208 _ _ t165 true _ ?side1 ?side2 ?side3 ?side4 A91.out).mono ?_); (case side1 => repeat (first | exact (Kd.R_reads' HO210.out).2.2 | (with_reducible refine Kd.C_alloc ?_ _) | (with_reducible refine Kd.C_drewN ?_ _) | (with_reducible refine Kd.C_drew ?_))); (case side2 => exact (Kd.R_reads' HO210.out).2.1); (case side3 => repeat (first | exact (Kd.R_reads' HO_6.out).2.2 | (with_reducible refine Kd.C_alloc ?_ _) | (with_reducible refine Kd.C_drewN ?_ _) | (with_reducible refine Kd.C_drew ?_))); (case side4 => exact (Kd.R_reads' HO_6.out).2.1); rintro e w' ⟨rfl, ⟨nd, rfl⟩⟩; refine ⟨_, rfl, ?_⟩) | ((with_reducible refine gate_callee (f := 54) rfl ?_); refine goesL_ (some 86) rfl rfl Try.func54 (by kernel_rfl) rfl #[.slice Ao66 t198.length co66, .int .i64 1] rfl (by (try simp only [List.map_toArray, List.map_cons, List.map_nil]); first | done | (rw [show t198.length = t178.length from (Kd.R_reads' HO_9.out).1.symm] <;> rfl) | rfl | (simp only [List.length_drop, List.length_take]; rfl)) ?_; (with_reducible refine (laws_heldIntS.calls kj34 _ _ t198 1 t212 _ ?side1 ?side2 A93.out).mono ?_); (case side1 => repeat (first | exact (Kd.R_reads' HO_9.out).2.2 | (with_reducible refine Kd.C_alloc ?_ _) | (with_reducible refine Kd.C_drewN ?_ _) | (with_reducible refine Kd.C_drew ?_))); (case side2 => rw [show t198.length = t178.length from (Kd.R_reads' HO_9.out).1.symm]; exact (Kd.R_reads' HO_9.out).2.1); rintro e w' ⟨rfl, ⟨nd, rfl⟩⟩; refine ⟨_, rfl, ?_⟩))
              go_ret
              exact ⟨zE, zB⟩
           ·replace c92 := Bool.eq_false_iff.mpr c92
            subst c92
            have H1 : (some false) = some r := by rw [if_neg (show ¬ (false = true) by decide)] at H; exact H
            clear H
            have H := H1
            clear H1
            obtain rfl := Option.some.inj H
            try go_wp2_with (first | ((with_reducible refine gate_callee (f := 53) rfl ?_); refine zg #[.slice Ao66 t178.length co66, .int .i64 1] Try.func53 ?_; (with_reducible refine (laws_markIntS.calls kj34 (fun k_ => some k_ = (.slice Ao66 t178.length co66 : Value).ownBlock) (.slice Ao66 t178.length co66) t178 1 t197 t198 w _ zB ?side2 A83.out).mono ?_); (case side2 => exact Kd.R_tight rfl HO_9.out); rintro e w120 ⟨rfl, hy0, hb, hkp⟩; refine ⟨_, rfl, ?_⟩; replace HO_6 := zm (Kd.R_mono (ok' := fun k_ => some k_ ≠ (.slice Ao66 t178.length co66 : Value).ownBlock ∧ some k_ ≠ (.slice Ao52 t193.length co52 : Value).ownBlock ∧ some k_ ≠ (.slice Ao59 t195.length co59 : Value).ownBlock) (Kd.R_keptB (HO_6.out) hkp (fun k_ hk_ hs_ => (hk_.1) hs_)) (fun k_ hk_ => ⟨hk_.1.1, hk_.1.2.1, hk_.1.2.2⟩)); replace HO_173000 := zm (Kd.R_mono (ok' := fun k_ => some k_ ≠ (.slice Ao67 t165.length co67 : Value).ownBlock ∧ some k_ ≠ (.slice Ao66 t178.length co66 : Value).ownBlock ∧ some k_ ≠ (.slice Ao59 t195.length co59 : Value).ownBlock) (Kd.R_keptB (HO_173000.out) hkp (fun k_ hk_ hs_ => (hk_.2.1) hs_)) (fun k_ hk_ => ⟨hk_.1.1, hk_.1.2.1, hk_.1.2.2⟩)); replace HO_178000 := zm (Kd.R_mono (ok' := fun k_ => some k_ ≠ (.slice Ao67 t165.length co67 : Value).ownBlock ∧ some k_ ≠ (.slice Ao66 t178.length co66 : Value).ownBlock ∧ some k_ ≠ (.slice Ao52 t193.length co52 : Value).ownBlock) (Kd.R_keptB (HO_178000.out) hkp (fun k_ hk_ hs_ => (hk_.2.1) hs_)) (fun k_ hk_ => ⟨hk_.1.1, hk_.1.2.1, hk_.1.2.2⟩)); replace BK153 := zm (blk_kept (zb BK153) hkp (fun hs_ => (fun e_ => (Kd.R_ne HO_9.out BK153.out (by decide)) e_) hs_)); replace BK154 := zm (blk_kept (zb BK154) hkp (fun hs_ => (fun e_ => (Kd.R_ne HO_9.out BK154.out (by decide)) e_) hs_)); replace BK172 := zm (blk_kept (zb BK172) hkp (fun hs_ => (fun e_ => (Kd.R_ne HO_9.out BK172.out (by decide)) e_) hs_)); replace BK177 := zm (blk_kept (zb BK177) hkp (fun hs_ => (fun e_ => (Kd.R_ne HO_9.out BK177.out (by decide)) e_) hs_)); replace HO_9 := zm (Kd.R_reok rfl hy0 (fun k_ e_ => HO_9.out.1 k_ e_)); replace HB := zm (hb); clear hb hkp hy0) | ((with_reducible refine gate_callee (f := 54) rfl ?_); refine goesL_ (some 69) rfl rfl Try.func54 (by kernel_rfl) rfl #[.slice Ao66 t198.length co66, .int .i64 1] rfl (by (try simp only [List.map_toArray, List.map_cons, List.map_nil]); first | done | (rw [show t198.length = t178.length from (Kd.R_reads' HO_9.out).1.symm] <;> rfl) | rfl | (simp only [List.length_drop, List.length_take]; rfl)) ?_; (with_reducible refine (laws_heldIntS.calls kj34 _ _ t198 1 t199 _ ?side1 ?side2 A84.out).mono ?_); (case side1 => repeat (first | exact (Kd.R_reads' HO_9.out).2.2 | (with_reducible refine Kd.C_alloc ?_ _) | (with_reducible refine Kd.C_drewN ?_ _) | (with_reducible refine Kd.C_drew ?_))); (case side2 => rw [show t198.length = t178.length from (Kd.R_reads' HO_9.out).1.symm]; exact (Kd.R_reads' HO_9.out).2.1); rintro e w' ⟨rfl, ⟨nd, rfl⟩⟩; refine ⟨_, rfl, ?_⟩))
            (try (rw [drewN_self w120]; generalize hq_ : World.drewN w120 _ = w120; have n0_ := zm (Kd.R_at hq_ HO_6.out); have n1_ := zm (Kd.R_at hq_ HO_9.out); have n2_ := zm (Kd.R_at hq_ HO_173000.out); have n3_ := zm (Kd.R_at hq_ HO_178000.out); have n4_ := zm (blk_at hq_ BK153.out); have n5_ := zm (blk_at hq_ BK154.out); have n6_ := zm (blk_at hq_ BK172.out); have n7_ := zm (blk_at hq_ BK177.out); have n8_ := zm (below_at hq_ HB.out); clear hq_ HO_6 HO_9 HO_173000 HO_178000 BK153 BK154 BK172 BK177 HB; have HO_6 := n0_; have HO_9 := n1_; have HO_173000 := n2_; have HO_178000 := n3_; have BK153 := n4_; have BK154 := n5_; have BK172 := n6_; have BK177 := n7_; have HB := n8_; clear n0_ n1_ n2_ n3_ n4_ n5_ n6_ n7_ n8_))
            replace HO_6 := zm (Kd.R_drew HO_6.out)
            replace HO_9 := zm (Kd.R_drew HO_9.out)
            replace HO_173000 := zm (Kd.R_drew HO_173000.out)
            replace HO_178000 := zm (Kd.R_drew HO_178000.out)
            replace BK153 := zm (blk_drew BK153.out)
            replace BK154 := zm (blk_drew BK154.out)
            replace BK172 := zm (blk_drew BK172.out)
            replace BK177 := zm (blk_drew BK177.out)
            replace HB := zm (below_drew1 HB.out)
            refine start_ (n := 6) (S := fun w' => w'.cell? ⟨gb153, 0, none⟩ = some (.slice A0_0 l0_0.length c0_0) ∧ w'.cell? ⟨gb153, 1, none⟩ = some (.int .i64 a0_1) ∧ w'.cell? ⟨gb154, 0, none⟩ = some (.slice A1_0 l1_0.length c1_0) ∧ w'.cell? ⟨gb154, 1, none⟩ = some (.int .i64 a1_1)) (ds := []) (zl 6 0) (by kernel_rfl) rfl rfl ⟨(blk_cell BK153.out 0).trans rfl, (blk_cell BK153.out 1).trans rfl, (blk_cell BK154.out 0).trans rfl, (blk_cell BK154.out 1).trans rfl⟩ (fun hHeld => ?_)
            generalize w120.drew = w121 at HO_6 HO_9 HO_173000 HO_178000 BK153 BK154 BK172 BK177 HB hHeld ⊢
            refine zt 0 (some 75) (zl 6 1) ?_
            refine zt 2 (some 77) (zl 6 5) ?_
            refine zo 1 (some 76) (zl 6 7) (fun K hK => ?_)
            refine zgo #[.agg #[.slice A0_0 l0_0.length c0_0, .int .i64 a0_1]] Try.func48 ?_
            with_reducible refine (laws_toTree.calls kj34 _ _ l0_0 a0_1 t200 t203 _ (zk (Kd.C_below HR0_0.out HB.out)) HC0_0.out A88.out).mono ?_
            rintro e w122 ⟨v201, rfl, ho0, hb⟩
            refine ⟨_, rfl, ?_⟩
            have HO202 := zm (Kd.R_lower (Kd.R_new' (Kd.R_new' (Kd.R_new' (Kd.R_new' ho0 (Kd.R_lt (zr HO_6))) (Kd.R_lt (zr HO_9))) (Kd.R_lt (zr HO_173000))) (Kd.R_lt (zr HO_178000))) (below_size zB))
            replace HO_6 := zm (Kd.R_elder' (zr HO_6) (Kd.R_base ho0) hb)
            replace HO_9 := zm (Kd.R_elder' (zr HO_9) (Kd.R_base ho0) hb)
            replace HO_173000 := zm (Kd.R_elder' (zr HO_173000) (Kd.R_base ho0) hb)
            replace HO_178000 := zm (Kd.R_elder' (zr HO_178000) (Kd.R_base ho0) hb)
            replace BK153 := zm (blk_below (zb BK153) hb)
            replace BK154 := zm (blk_below (zb BK154) hb)
            replace BK172 := zm (blk_below (zb BK172) hb)
            replace BK177 := zm (blk_below (zb BK177) hb)
            replace HB := zm (below_step zB hb)
            (try clear hb)
            (try clear hb2)
            (try clear hk)
            (try clear hi)
            (try clear ho0)
            refine hK.out _ _ ⟨(blk_cell BK153.out 0).trans rfl, (blk_cell BK153.out 1).trans rfl, (blk_cell BK154.out 0).trans rfl, (blk_cell BK154.out 1).trans rfl⟩ (fun hHeld => ?_)
            clear hK K
            refine zn ?_
            refine zo 3 (some 78) (zl 6 15) (fun K hK => ?_)
            refine zgo #[.agg #[.slice A1_0 l1_0.length c1_0, .int .i64 a1_1]] Try.func48 ?_
            with_reducible refine (laws_toTree.calls kj34 _ _ l1_0 a1_1 t204 t207 _ (zk (Kd.C_below HR1_0.out HB.out)) HC1_0.out A89.out).mono ?_
            rintro e w123 ⟨v205, rfl, ho0, hb⟩
            refine ⟨_, rfl, ?_⟩
            have HO206 := zm (Kd.R_lower (Kd.R_new' (Kd.R_new' (Kd.R_new' (Kd.R_new' (Kd.R_new' ho0 (Kd.R_lt (zr HO_6))) (Kd.R_lt (zr HO_9))) (Kd.R_lt (zr HO_173000))) (Kd.R_lt (zr HO_178000))) (Kd.R_lt (zr HO202))) (below_size zB))
            replace HO_6 := zm (Kd.R_elder' (zr HO_6) (Kd.R_base ho0) hb)
            replace HO_9 := zm (Kd.R_elder' (zr HO_9) (Kd.R_base ho0) hb)
            replace HO_173000 := zm (Kd.R_elder' (zr HO_173000) (Kd.R_base ho0) hb)
            replace HO_178000 := zm (Kd.R_elder' (zr HO_178000) (Kd.R_base ho0) hb)
            replace HO202 := zm (Kd.R_elder' (zr HO202) (Kd.R_base ho0) hb)
            replace BK153 := zm (blk_below (zb BK153) hb)
            replace BK154 := zm (blk_below (zb BK154) hb)
            replace BK172 := zm (blk_below (zb BK172) hb)
            replace BK177 := zm (blk_below (zb BK177) hb)
            replace HB := zm (below_step zB hb)
            (try clear hb)
            (try clear hb2)
            (try clear hk)
            (try clear hi)
            (try clear ho0)
            obtain ⟨Ao124, co124, eo124⟩ := Kd.R_slice HO202.out
            (first | subst eo124 | (injection eo124 with f1_ f2_ f3_; have f4_ := f1_.symm; have f5_ := f3_.symm; clear f1_ f2_ f3_; subst f4_; subst f5_))
            obtain ⟨Ao125, co125, eo125⟩ := Kd.R_slice HO206.out
            (first | subst eo125 | (injection eo125 with f1_ f2_ f3_; have f4_ := f1_.symm; have f5_ := f3_.symm; clear f1_ f2_ f3_; subst f4_; subst f5_))
            refine hK.out _ _ ⟨(blk_cell BK153.out 0).trans rfl, (blk_cell BK153.out 1).trans rfl, (blk_cell BK154.out 0).trans rfl, (blk_cell BK154.out 1).trans rfl⟩ (fun hHeld => ?_)
            clear hK K
            refine zn ?_
            refine zo 4 (some 79) (zl 6 31) (fun K hK => ?_)
            refine zgo #[.agg #[.slice Ao124 t200.length co124, .int .i64 t203], .agg #[.slice Ao125 t204.length co125, .int .i64 t207]] Try.func49 ?_
            with_reducible refine (impl_Differ.calls kj34 _ _ t200 t203 _ _ t204 t207 t208 _ ?side1 ?side2 ?side3 ?side4 A90.out).mono ?_
            (case side1 => repeat (first | exact (Kd.R_reads' HO202.out).2.2 | (with_reducible refine Kd.C_alloc ?_ _) | (with_reducible refine Kd.C_drewN ?_ _) | (with_reducible refine Kd.C_drew ?_)))
            (case side2 => exact (Kd.R_reads' HO202.out).2.1)
            (case side3 => repeat (first | exact (Kd.R_reads' HO206.out).2.2 | (with_reducible refine Kd.C_alloc ?_ _) | (with_reducible refine Kd.C_drewN ?_ _) | (with_reducible refine Kd.C_drew ?_)))
            (case side4 => exact (Kd.R_reads' HO206.out).2.1)
            rintro e w126 ⟨v209, rfl, ho0, hb⟩
            refine ⟨_, rfl, ?_⟩
            have HO210 := zm (Kd.R_lower (Kd.R_new' (Kd.R_new' (Kd.R_new' (Kd.R_new' (Kd.R_new' (Kd.R_new' ho0 (Kd.R_lt (zr HO_6))) (Kd.R_lt (zr HO_9))) (Kd.R_lt (zr HO_173000))) (Kd.R_lt (zr HO_178000))) (Kd.R_lt (zr HO202))) (Kd.R_lt (zr HO206))) (below_size zB))
            replace HO_6 := zm (Kd.R_elder' (zr HO_6) (Kd.R_base ho0) hb)
            replace HO_9 := zm (Kd.R_elder' (zr HO_9) (Kd.R_base ho0) hb)
            replace HO_173000 := zm (Kd.R_elder' (zr HO_173000) (Kd.R_base ho0) hb)
            replace HO_178000 := zm (Kd.R_elder' (zr HO_178000) (Kd.R_base ho0) hb)
            replace HO202 := zm (Kd.R_elder' (zr HO202) (Kd.R_base ho0) hb)
            replace HO206 := zm (Kd.R_elder' (zr HO206) (Kd.R_base ho0) hb)
            replace BK153 := zm (blk_below (zb BK153) hb)
            replace BK154 := zm (blk_below (zb BK154) hb)
            replace BK172 := zm (blk_below (zb BK172) hb)
            replace BK177 := zm (blk_below (zb BK177) hb)
            replace HB := zm (below_step zB hb)
            (try clear hb)
            (try clear hb2)
            (try clear hk)
            (try clear hi)
            (try clear ho0)
            refine hK.out _ _ ⟨(blk_cell BK153.out 0).trans rfl, (blk_cell BK153.out 1).trans rfl, (blk_cell BK154.out 0).trans rfl, (blk_cell BK154.out 1).trans rfl⟩ (fun hHeld => ?_)
            clear hK K
            refine zn ?_
            refine zp 5 (some 13) (zl 6 63) ?_
            refine done_ (by kernel_rfl) ?_
            obtain ⟨Ao127, co127, eo127⟩ := Kd.R_slice HO210.out
            subst eo127
            try go_wp2_with (first | ((with_reducible refine gate_callee (f := 50) rfl ?_); refine zg #[.slice Ao127 t208.length co127, .slice Ao67 t165.length co67] Try.func50 ?_; (with_reducible refine (laws_eqIntS.calls kj34 _ _ t208 _ _ t165 false _ ?side1 ?side2 ?side3 ?side4 A91.out).mono ?_); (case side1 => repeat (first | exact (Kd.R_reads' HO210.out).2.2 | (with_reducible refine Kd.C_alloc ?_ _) | (with_reducible refine Kd.C_drewN ?_ _) | (with_reducible refine Kd.C_drew ?_))); (case side2 => exact (Kd.R_reads' HO210.out).2.1); (case side3 => repeat (first | exact (Kd.R_reads' HO_6.out).2.2 | (with_reducible refine Kd.C_alloc ?_ _) | (with_reducible refine Kd.C_drewN ?_ _) | (with_reducible refine Kd.C_drew ?_))); (case side4 => exact (Kd.R_reads' HO_6.out).2.1); rintro e w' ⟨rfl, ⟨nd, rfl⟩⟩; refine ⟨_, rfl, ?_⟩))
            go_ret
            exact ⟨zE, zB⟩
          ·rw [if_neg c87] at H
           have c87b0 : (t199 == t197) = false := beq_eq_false_iff_ne.mpr c87
           have c87b1 : (t199 != t197) = true := bne_iff_ne.mpr c87
           obtain rfl := Option.some.inj H
           go_wp2_with (first | ((with_reducible refine gate_callee (f := 53) rfl ?_); refine zg #[.slice Ao66 t178.length co66, .int .i64 1] Try.func53 ?_; (with_reducible refine (laws_markIntS.calls kj34 (fun k_ => some k_ = (.slice Ao66 t178.length co66 : Value).ownBlock) (.slice Ao66 t178.length co66) t178 1 t197 t198 w _ zB ?side2 A83.out).mono ?_); (case side2 => exact Kd.R_tight rfl HO_9.out); rintro e w128 ⟨rfl, hy0, hb, hkp⟩; refine ⟨_, rfl, ?_⟩; replace HO_6 := zm (Kd.R_mono (ok' := fun k_ => some k_ ≠ (.slice Ao66 t178.length co66 : Value).ownBlock ∧ some k_ ≠ (.slice Ao52 t193.length co52 : Value).ownBlock ∧ some k_ ≠ (.slice Ao59 t195.length co59 : Value).ownBlock) (Kd.R_keptB (HO_6.out) hkp (fun k_ hk_ hs_ => (hk_.1) hs_)) (fun k_ hk_ => ⟨hk_.1.1, hk_.1.2.1, hk_.1.2.2⟩)); replace HO_173000 := zm (Kd.R_mono (ok' := fun k_ => some k_ ≠ (.slice Ao67 t165.length co67 : Value).ownBlock ∧ some k_ ≠ (.slice Ao66 t178.length co66 : Value).ownBlock ∧ some k_ ≠ (.slice Ao59 t195.length co59 : Value).ownBlock) (Kd.R_keptB (HO_173000.out) hkp (fun k_ hk_ hs_ => (hk_.2.1) hs_)) (fun k_ hk_ => ⟨hk_.1.1, hk_.1.2.1, hk_.1.2.2⟩)); replace HO_178000 := zm (Kd.R_mono (ok' := fun k_ => some k_ ≠ (.slice Ao67 t165.length co67 : Value).ownBlock ∧ some k_ ≠ (.slice Ao66 t178.length co66 : Value).ownBlock ∧ some k_ ≠ (.slice Ao52 t193.length co52 : Value).ownBlock) (Kd.R_keptB (HO_178000.out) hkp (fun k_ hk_ hs_ => (hk_.2.1) hs_)) (fun k_ hk_ => ⟨hk_.1.1, hk_.1.2.1, hk_.1.2.2⟩)); replace BK153 := zm (blk_kept (zb BK153) hkp (fun hs_ => (fun e_ => (Kd.R_ne HO_9.out BK153.out (by decide)) e_) hs_)); replace BK154 := zm (blk_kept (zb BK154) hkp (fun hs_ => (fun e_ => (Kd.R_ne HO_9.out BK154.out (by decide)) e_) hs_)); replace BK172 := zm (blk_kept (zb BK172) hkp (fun hs_ => (fun e_ => (Kd.R_ne HO_9.out BK172.out (by decide)) e_) hs_)); replace BK177 := zm (blk_kept (zb BK177) hkp (fun hs_ => (fun e_ => (Kd.R_ne HO_9.out BK177.out (by decide)) e_) hs_)); replace HO_9 := zm (Kd.R_reok rfl hy0 (fun k_ e_ => HO_9.out.1 k_ e_)); replace HB := zm (hb); clear hb hkp hy0) | ((with_reducible refine gate_callee (f := 54) rfl ?_); refine goesL_ (some 69) rfl rfl Try.func54 (by kernel_rfl) rfl #[.slice Ao66 t198.length co66, .int .i64 1] rfl (by (try simp only [List.map_toArray, List.map_cons, List.map_nil]); first | done | (rw [show t198.length = t178.length from (Kd.R_reads' HO_9.out).1.symm] <;> rfl) | rfl | (simp only [List.length_drop, List.length_take]; rfl)) ?_; (with_reducible refine (laws_heldIntS.calls kj34 _ _ t198 1 t199 _ ?side1 ?side2 A84.out).mono ?_); (case side1 => repeat (first | exact (Kd.R_reads' HO_9.out).2.2 | (with_reducible refine Kd.C_alloc ?_ _) | (with_reducible refine Kd.C_drewN ?_ _) | (with_reducible refine Kd.C_drew ?_))); (case side2 => rw [show t198.length = t178.length from (Kd.R_reads' HO_9.out).1.symm]; exact (Kd.R_reads' HO_9.out).2.1); rintro e w' ⟨rfl, ⟨nd, rfl⟩⟩; refine ⟨_, rfl, ?_⟩))
           go_ret
           exact ⟨zE, zB⟩
     ·replace c32 := Bool.eq_false_iff.mpr c32
      subst c32
      have H1 : (some false) = some r := by rw [if_neg (show ¬ (false = true) by decide)] at H; exact H
      clear H
      have H := H1
      clear H1
      obtain rfl := Option.some.inj H
      go_enter Try.func14, Try.ntmps14
      try go_wp2_with (first | ((with_reducible refine gate_dst (N := 2) rfl ?_); refine zbox 2 #[.slice A0_0 l0_0.length c0_0, .int .i64 a0_1] 61 ?_; intro gb153 hg w129 hbox hb; have BK153 := zm (hbox); have GW153 := zge w hg zB; have GE153 := zge w hg zB; replace HB := zm (below_step zB hb); clear hb hbox hg) | ((with_reducible refine gate_dst (N := 3) rfl ?_); refine zbox 3 #[.slice A1_0 l1_0.length c1_0, .int .i64 a1_1] 61 ?_; intro gb154 hg w130 hbox hb; have BK154 := zm (hbox); have GW154 := zge w hg zB; have GE154 := zge w hg zB; replace HB := zm (below_step zB hb); have NB153_154 := zlt hg (zb BK153); have NB154_153 := zgt hg (zb BK153); replace BK153 := zm (blk_below (zb BK153) hb); clear hb hbox hg; have hnb131 := NB153_154.out; have hnc131 := NB154_153.out; have hcz132_0 : w130.cell? ⟨gb153, 0, none⟩ = some (.slice A0_0 l0_0.length c0_0) := (blk_cell BK153.out 0).trans rfl; have hcz132_1 : w130.cell? ⟨gb153, 1, none⟩ = some (.int .i64 a0_1) := (blk_cell BK153.out 1).trans rfl; have hfz132_0 := blk_frozen BK153.out 0; have hfz132_1 := blk_frozen BK153.out 1) | ((with_reducible refine gate_callee (f := 46) rfl ?_); refine zg #[.agg #[.slice A0_0 l0_0.length c0_0, .int .i64 a0_1], .int .i64 1048576] Try.func46 ?_; (with_reducible refine (laws_szTree.calls _ _ l0_0 a0_1 1048576 t155 _ (zk (Kd.C_below HR0_0.out HB.out)) HC0_0.out A3.out).mono ?_); rintro e w133 ⟨rfl, hb⟩; refine ⟨_, rfl, ?_⟩; replace BK153 := zm (blk_below (zb BK153) hb); replace BK154 := zm (blk_below (zb BK154) hb); replace HB := zm (below_step zB hb); clear hb; have hcz134_0 : w133.cell? ⟨gb154, 0, none⟩ = some (.slice A1_0 l1_0.length c1_0) := (blk_cell BK154.out 0).trans rfl; have hcz134_1 : w133.cell? ⟨gb154, 1, none⟩ = some (.int .i64 a1_1) := (blk_cell BK154.out 1).trans rfl; have hfz134_0 := blk_frozen BK154.out 0; have hfz134_1 := blk_frozen BK154.out 1) | ((with_reducible refine gate_callee (f := 46) rfl ?_); refine zg #[.agg #[.slice A1_0 l1_0.length c1_0, .int .i64 a1_1], .int .i64 t155] Try.func46 ?_; (with_reducible refine (laws_szTree.calls _ _ l1_0 a1_1 t155 t156 _ (zk (Kd.C_below HR1_0.out HB.out)) HC1_0.out A10.out).mono ?_); rintro e w135 ⟨rfl, hb⟩; refine ⟨_, rfl, ?_⟩; replace BK153 := zm (blk_below (zb BK153) hb); replace BK154 := zm (blk_below (zb BK154) hb); replace HB := zm (below_step zB hb); clear hb))
      replace BK153 := zm (blk_drew BK153.out)
      replace BK154 := zm (blk_drew BK154.out)
      replace HB := zm (below_drew1 HB.out)
      refine start_ (n := 6) (S := fun w' => w'.cell? ⟨gb153, 0, none⟩ = some (.slice A0_0 l0_0.length c0_0) ∧ w'.cell? ⟨gb153, 1, none⟩ = some (.int .i64 a0_1) ∧ w'.cell? ⟨gb154, 0, none⟩ = some (.slice A1_0 l1_0.length c1_0) ∧ w'.cell? ⟨gb154, 1, none⟩ = some (.int .i64 a1_1)) (ds := []) (zl 6 0) (by kernel_rfl) rfl rfl ⟨(blk_cell BK153.out 0).trans rfl, (blk_cell BK153.out 1).trans rfl, (blk_cell BK154.out 0).trans rfl, (blk_cell BK154.out 1).trans rfl⟩ (fun hHeld => ?_)
      generalize w135.drew = w136 at BK153 BK154 HB hHeld ⊢
      refine zt 0 (some 24) (zl 6 1) ?_
      refine zt 2 (some 26) (zl 6 5) ?_
      refine zo 1 (some 25) (zl 6 7) (fun K hK => ?_)
      refine zgo #[.agg #[.slice A0_0 l0_0.length c0_0, .int .i64 a0_1]] Try.func48 ?_
      with_reducible refine (laws_toTree.calls k _ _ l0_0 a0_1 t157 t160 _ (zk (Kd.C_below HR0_0.out HB.out)) HC0_0.out A19.out).mono ?_
      rintro e w137 ⟨v158, rfl, ho0, hb⟩
      refine ⟨_, rfl, ?_⟩
      have HO159 := zm (Kd.R_lower ho0 (below_size zB))
      replace BK153 := zm (blk_below (zb BK153) hb)
      replace BK154 := zm (blk_below (zb BK154) hb)
      replace HB := zm (below_step zB hb)
      (try clear hb)
      (try clear hb2)
      (try clear hk)
      (try clear hi)
      (try clear ho0)
      refine hK.out _ _ ⟨(blk_cell BK153.out 0).trans rfl, (blk_cell BK153.out 1).trans rfl, (blk_cell BK154.out 0).trans rfl, (blk_cell BK154.out 1).trans rfl⟩ (fun hHeld => ?_)
      clear hK K
      refine zn ?_
      refine zo 3 (some 27) (zl 6 15) (fun K hK => ?_)
      refine zgo #[.agg #[.slice A1_0 l1_0.length c1_0, .int .i64 a1_1]] Try.func48 ?_
      with_reducible refine (laws_toTree.calls k _ _ l1_0 a1_1 t161 t164 _ (zk (Kd.C_below HR1_0.out HB.out)) HC1_0.out A20.out).mono ?_
      rintro e w138 ⟨v162, rfl, ho0, hb⟩
      refine ⟨_, rfl, ?_⟩
      have HO163 := zm (Kd.R_lower (Kd.R_new' ho0 (Kd.R_lt (zr HO159))) (below_size zB))
      replace HO159 := zm (Kd.R_elder' (zr HO159) (Kd.R_base ho0) hb)
      replace BK153 := zm (blk_below (zb BK153) hb)
      replace BK154 := zm (blk_below (zb BK154) hb)
      replace HB := zm (below_step zB hb)
      (try clear hb)
      (try clear hb2)
      (try clear hk)
      (try clear hi)
      (try clear ho0)
      obtain ⟨Ao139, co139, eo139⟩ := Kd.R_slice HO159.out
      (first | subst eo139 | (injection eo139 with f1_ f2_ f3_; have f4_ := f1_.symm; have f5_ := f3_.symm; clear f1_ f2_ f3_; subst f4_; subst f5_))
      obtain ⟨Ao140, co140, eo140⟩ := Kd.R_slice HO163.out
      (first | subst eo140 | (injection eo140 with f1_ f2_ f3_; have f4_ := f1_.symm; have f5_ := f3_.symm; clear f1_ f2_ f3_; subst f4_; subst f5_))
      refine hK.out _ _ ⟨(blk_cell BK153.out 0).trans rfl, (blk_cell BK153.out 1).trans rfl, (blk_cell BK154.out 0).trans rfl, (blk_cell BK154.out 1).trans rfl⟩ (fun hHeld => ?_)
      clear hK K
      refine zn ?_
      refine zo 4 (some 28) (zl 6 31) (fun K hK => ?_)
      refine zgo #[.agg #[.slice Ao139 t157.length co139, .int .i64 t160], .agg #[.slice Ao140 t161.length co140, .int .i64 t164]] Try.func47 ?_
      with_reducible refine (spec_Differ.calls k _ _ t157 t160 _ _ t161 t164 t165 _ ?side1 ?side2 ?side3 ?side4 A21.out).mono ?_
      (case side1 => repeat (first | exact (Kd.R_reads' HO159.out).2.2 | (with_reducible refine Kd.C_alloc ?_ _) | (with_reducible refine Kd.C_drewN ?_ _) | (with_reducible refine Kd.C_drew ?_)))
      (case side2 => exact (Kd.R_reads' HO159.out).2.1)
      (case side3 => repeat (first | exact (Kd.R_reads' HO163.out).2.2 | (with_reducible refine Kd.C_alloc ?_ _) | (with_reducible refine Kd.C_drewN ?_ _) | (with_reducible refine Kd.C_drew ?_)))
      (case side4 => exact (Kd.R_reads' HO163.out).2.1)
      rintro e w141 ⟨v166, rfl, ho0, hb⟩
      refine ⟨_, rfl, ?_⟩
      have HO167 := zm (Kd.R_lower (Kd.R_new' (Kd.R_new' ho0 (Kd.R_lt (zr HO159))) (Kd.R_lt (zr HO163))) (below_size zB))
      replace HO159 := zm (Kd.R_elder' (zr HO159) (Kd.R_base ho0) hb)
      replace HO163 := zm (Kd.R_elder' (zr HO163) (Kd.R_base ho0) hb)
      replace BK153 := zm (blk_below (zb BK153) hb)
      replace BK154 := zm (blk_below (zb BK154) hb)
      replace HB := zm (below_step zB hb)
      (try clear hb)
      (try clear hb2)
      (try clear hk)
      (try clear hi)
      (try clear ho0)
      refine hK.out _ _ ⟨(blk_cell BK153.out 0).trans rfl, (blk_cell BK153.out 1).trans rfl, (blk_cell BK154.out 0).trans rfl, (blk_cell BK154.out 1).trans rfl⟩ (fun hHeld => ?_)
      clear hK K
      refine zn ?_
      refine zp 5 (some 6) (zl 6 63) ?_
      refine done_ (by kernel_rfl) ?_
      have hcz142_0 : w141.cell? ⟨gb153, 0, none⟩ = some (.slice A0_0 l0_0.length c0_0) := (blk_cell BK153.out 0).trans rfl
      have hcz142_1 : w141.cell? ⟨gb153, 1, none⟩ = some (.int .i64 a0_1) := (blk_cell BK153.out 1).trans rfl
      have hfz142_0 := blk_frozen BK153.out 0
      have hfz142_1 := blk_frozen BK153.out 1
      try go_wp2_with (first | ((with_reducible refine gate_callee (f := 48) rfl ?_); refine zg #[.agg #[.slice A0_0 l0_0.length c0_0, .int .i64 a0_1]] Try.func48 ?_; (with_reducible refine (laws_toTree.calls k _ _ l0_0 a0_1 t168 t171 _ (zk (Kd.C_below HR0_0.out HB.out)) HC0_0.out A22.out).mono ?_); rintro e w143 ⟨v169, rfl, ho0, hb⟩; refine ⟨_, rfl, ?_⟩; have HO170 := zm (Kd.R_lower (Kd.R_new' (Kd.R_new' (Kd.R_new' ho0 (Kd.R_lt (zr HO159))) (Kd.R_lt (zr HO163))) (Kd.R_lt (zr HO167))) (below_size zB)); replace HO159 := zm (Kd.R_elder' (zr HO159) (Kd.R_base ho0) hb); replace HO163 := zm (Kd.R_elder' (zr HO163) (Kd.R_base ho0) hb); replace HO167 := zm (Kd.R_elder' (zr HO167) (Kd.R_base ho0) hb); replace BK153 := zm (blk_below (zb BK153) hb); replace BK154 := zm (blk_below (zb BK154) hb); replace HB := zm (below_step zB hb); clear hb ho0) | ((with_reducible refine gate_dst (N := 7) rfl ?_); refine zbox 7 #[.slice none 0 0, .int .i64 0] 64 ?_; intro gb172 hg w144 hbox hb; replace HO159 := zm (Kd.R_below (zr HO159) hb); replace HO163 := zm (Kd.R_below (zr HO163) hb); replace HO167 := zm (Kd.R_below (zr HO167) hb); replace HO170 := zm (Kd.R_below (zr HO170) hb); have BK172 := zm (hbox); have GW172 := zge w hg zB; have GE172 := zge w hg zB; replace HB := zm (below_step zB hb); have NB153_172 := zlt hg (zb BK153); have NB172_153 := zgt hg (zb BK153); replace BK153 := zm (blk_below (zb BK153) hb); have NB154_172 := zlt hg (zb BK154); have NB172_154 := zgt hg (zb BK154); replace BK154 := zm (blk_below (zb BK154) hb); clear hb hbox hg; obtain ⟨Ao145, co145, eo145⟩ := Kd.R_slice HO170.out; subst eo145; have hnb146 := NB172_153.out; have hnc146 := NB153_172.out; have hnb147 := NB172_154.out; have hnc147 := NB154_172.out; have hcz148_0 : w144.cell? ⟨gb172, 0, none⟩ = some (.slice none 0 0) := (blk_cell BK172.out 0).trans rfl; have hcz148_1 : w144.cell? ⟨gb172, 1, none⟩ = some (.int .i64 0) := (blk_cell BK172.out 1).trans rfl; have hfz148_0 := blk_frozen BK172.out 0; have hfz148_1 := blk_frozen BK172.out 1; have hcz149_0 : w144.cell? ⟨gb154, 0, none⟩ = some (.slice A1_0 l1_0.length c1_0) := (blk_cell BK154.out 0).trans rfl; have hcz149_1 : w144.cell? ⟨gb154, 1, none⟩ = some (.int .i64 a1_1) := (blk_cell BK154.out 1).trans rfl; have hfz149_0 := blk_frozen BK154.out 0; have hfz149_1 := blk_frozen BK154.out 1) | ((with_reducible refine gate_callee (f := 48) rfl ?_); refine zg #[.agg #[.slice A1_0 l1_0.length c1_0, .int .i64 a1_1]] Try.func48 ?_; (with_reducible refine (laws_toTree.calls k _ _ l1_0 a1_1 t173 t176 _ ?side1 HC1_0.out A23.out).mono ?_); (case side1 => exact Kd.C_below HR1_0.out zB); rintro e w150 ⟨v174, rfl, ho0, hb⟩; refine ⟨_, rfl, ?_⟩; have HO175 := zm (Kd.R_lower (Kd.R_new' (Kd.R_new' (Kd.R_new' (Kd.R_new' ho0 (Kd.R_lt (zrs <| (Kd.R_mono (zfr (zfr (Kd.R_types HO159.out BK172.out (by decide)))) (fun _ h_ => h_.1))))) (Kd.R_lt (zrs <| (Kd.R_mono (zfr (zfr (Kd.R_types HO163.out BK172.out (by decide)))) (fun _ h_ => h_.1))))) (Kd.R_lt (zrs <| (Kd.R_mono (zfr (zfr (Kd.R_types HO167.out BK172.out (by decide)))) (fun _ h_ => h_.1))))) (Kd.R_lt (zrs <| (Kd.R_mono (zfr (zfr (Kd.R_types HO170.out BK172.out (by decide)))) (fun _ h_ => h_.1))))) (below_size zB)); replace HO159 := zm (Kd.R_elder' (zrs <| (Kd.R_mono (zfr (zfr (Kd.R_types HO159.out BK172.out (by decide)))) (fun _ h_ => h_.1))) (Kd.R_base ho0) hb); replace HO163 := zm (Kd.R_elder' (zrs <| (Kd.R_mono (zfr (zfr (Kd.R_types HO163.out BK172.out (by decide)))) (fun _ h_ => h_.1))) (Kd.R_base ho0) hb); replace HO167 := zm (Kd.R_elder' (zrs <| (Kd.R_mono (zfr (zfr (Kd.R_types HO167.out BK172.out (by decide)))) (fun _ h_ => h_.1))) (Kd.R_base ho0) hb); replace HO170 := zm (Kd.R_elder' (zrs <| (Kd.R_mono (zfr (zfr (Kd.R_types HO170.out BK172.out (by decide)))) (fun _ h_ => h_.1))) (Kd.R_base ho0) hb); replace BK153 := zm (blk_below (g := gb153) (o := .cells #[.slice A0_0 l0_0.length c0_0, .int .i64 a0_1] 61 (0, 0)) (zfar (zfar (zb BK153) NB153_172) NB153_172) hb); replace BK154 := zm (blk_below (g := gb154) (o := .cells #[.slice A1_0 l1_0.length c1_0, .int .i64 a1_1] 61 (0, 0)) (zfar (zfar (zb BK154) NB154_172) NB154_172) hb); replace BK172 := zm (blk_below (g := gb172) (o := .cells #[.slice Ao145 t168.length co145, .int .i64 t171] 64 (0, 0)) (zput (zput (zb BK172) 0) 1) hb); replace HB := zm (below_step zB hb); clear hb ho0) | ((with_reducible refine gate_dst (N := 8) rfl ?_); refine zbox 8 #[.slice none 0 0, .int .i64 0] 64 ?_; intro gb177 hg w151 hbox hb; replace HO159 := zm (Kd.R_below (zr HO159) hb); replace HO163 := zm (Kd.R_below (zr HO163) hb); replace HO167 := zm (Kd.R_below (zr HO167) hb); replace HO170 := zm (Kd.R_below (zr HO170) hb); replace HO175 := zm (Kd.R_below (zr HO175) hb); have BK177 := zm (hbox); have GW177 := zge w hg zB; have GE177 := zge w hg zB; replace HB := zm (below_step zB hb); have NB153_177 := zlt hg (zb BK153); have NB177_153 := zgt hg (zb BK153); replace BK153 := zm (blk_below (zb BK153) hb); have NB154_177 := zlt hg (zb BK154); have NB177_154 := zgt hg (zb BK154); replace BK154 := zm (blk_below (zb BK154) hb); have NB172_177 := zlt hg (zb BK172); have NB177_172 := zgt hg (zb BK172); replace BK172 := zm (blk_below (zb BK172) hb); clear hb hbox hg; obtain ⟨Ao152, co152, eo152⟩ := Kd.R_slice HO175.out; subst eo152; have hnb153 := NB177_153.out; have hnc153 := NB153_177.out; have hnb154 := NB177_154.out; have hnc154 := NB154_177.out; have hnb155 := NB177_172.out; have hnc155 := NB172_177.out; have hcz156_0 : w151.cell? ⟨gb177, 0, none⟩ = some (.slice none 0 0) := (blk_cell BK177.out 0).trans rfl; have hcz156_1 : w151.cell? ⟨gb177, 1, none⟩ = some (.int .i64 0) := (blk_cell BK177.out 1).trans rfl; have hfz156_0 := blk_frozen BK177.out 0; have hfz156_1 := blk_frozen BK177.out 1; have hcz157_0 : w151.cell? ⟨gb172, 0, none⟩ = some (.slice Ao145 t168.length co145) := (blk_cell BK172.out 0).trans rfl; have hcz157_1 : w151.cell? ⟨gb172, 1, none⟩ = some (.int .i64 t171) := (blk_cell BK172.out 1).trans rfl; have hfz157_0 := blk_frozen BK172.out 0; have hfz157_1 := blk_frozen BK172.out 1) | ((with_reducible refine gate_callee (f := 49) rfl ?_); refine zg #[.agg #[.slice Ao145 t168.length co145, .int .i64 t171], .agg #[.slice Ao152 t173.length co152, .int .i64 t176]] Try.func49 ?_; (with_reducible refine (impl_Differ.calls k _ _ t168 t171 _ _ t173 t176 t178 _ ?side1 ?side2 ?side3 ?side4 A24.out).mono ?_); (case side1 => refine (Kd.R_reads' (e := 3) (base := w.heap.size) (ok := fun k_ => ((((True ∧ some k_ ≠ (.slice Ao139 t157.length co139 : Value).ownBlock) ∧ some k_ ≠ (.slice Ao140 t161.length co140 : Value).ownBlock) ∧ some k_ ≠ (v166 : Value).ownBlock) ∧ some k_ ≠ (.slice Ao152 t173.length co152 : Value).ownBlock)) (n := t168.length) (c := co145) ?_).2.2; exact (zrs <| (Kd.R_mono (zfr (zfr (Kd.R_types HO170.out BK177.out (by decide)))) (fun _ h_ => h_.1)))); (case side2 => exact (Kd.R_reads' HO170.out).2.1); (case side3 => refine (Kd.R_reads' (e := 3) (base := w.heap.size) (ok := fun k_ => ((((True ∧ some k_ ≠ (.slice Ao139 t157.length co139 : Value).ownBlock) ∧ some k_ ≠ (.slice Ao140 t161.length co140 : Value).ownBlock) ∧ some k_ ≠ (v166 : Value).ownBlock) ∧ some k_ ≠ (.slice Ao145 t168.length co145 : Value).ownBlock)) (n := t173.length) (c := co152) ?_).2.2; exact (zrs <| (Kd.R_mono (zfr (zfr (Kd.R_types HO175.out BK177.out (by decide)))) (fun _ h_ => h_.1)))); (case side4 => exact (Kd.R_reads' HO175.out).2.1); rintro e w158 ⟨v179, rfl, ho0, hb⟩; refine ⟨_, rfl, ?_⟩; have HO180 := zm (Kd.R_lower (Kd.R_new' (Kd.R_new' (Kd.R_new' (Kd.R_new' (Kd.R_new' ho0 (Kd.R_lt (zrs <| (Kd.R_mono (zfr (zfr (Kd.R_types HO159.out BK177.out (by decide)))) (fun _ h_ => h_.1))))) (Kd.R_lt (zrs <| (Kd.R_mono (zfr (zfr (Kd.R_types HO163.out BK177.out (by decide)))) (fun _ h_ => h_.1))))) (Kd.R_lt (zrs <| (Kd.R_mono (zfr (zfr (Kd.R_types HO167.out BK177.out (by decide)))) (fun _ h_ => h_.1))))) (Kd.R_lt (zrs <| (Kd.R_mono (zfr (zfr (Kd.R_types HO170.out BK177.out (by decide)))) (fun _ h_ => h_.1))))) (Kd.R_lt (zrs <| (Kd.R_mono (zfr (zfr (Kd.R_types HO175.out BK177.out (by decide)))) (fun _ h_ => h_.1))))) (below_size zB)); replace HO159 := zm (Kd.R_elder' (zrs <| (Kd.R_mono (zfr (zfr (Kd.R_types HO159.out BK177.out (by decide)))) (fun _ h_ => h_.1))) (Kd.R_base ho0) hb); replace HO163 := zm (Kd.R_elder' (zrs <| (Kd.R_mono (zfr (zfr (Kd.R_types HO163.out BK177.out (by decide)))) (fun _ h_ => h_.1))) (Kd.R_base ho0) hb); replace HO167 := zm (Kd.R_elder' (zrs <| (Kd.R_mono (zfr (zfr (Kd.R_types HO167.out BK177.out (by decide)))) (fun _ h_ => h_.1))) (Kd.R_base ho0) hb); replace HO170 := zm (Kd.R_elder' (zrs <| (Kd.R_mono (zfr (zfr (Kd.R_types HO170.out BK177.out (by decide)))) (fun _ h_ => h_.1))) (Kd.R_base ho0) hb); replace HO175 := zm (Kd.R_elder' (zrs <| (Kd.R_mono (zfr (zfr (Kd.R_types HO175.out BK177.out (by decide)))) (fun _ h_ => h_.1))) (Kd.R_base ho0) hb); replace BK153 := zm (blk_below (g := gb153) (o := .cells #[.slice A0_0 l0_0.length c0_0, .int .i64 a0_1] 61 (0, 0)) (zfar (zfar (zb BK153) NB153_177) NB153_177) hb); replace BK154 := zm (blk_below (g := gb154) (o := .cells #[.slice A1_0 l1_0.length c1_0, .int .i64 a1_1] 61 (0, 0)) (zfar (zfar (zb BK154) NB154_177) NB154_177) hb); replace BK172 := zm (blk_below (g := gb172) (o := .cells #[.slice Ao145 t168.length co145, .int .i64 t171] 64 (0, 0)) (zfar (zfar (zb BK172) NB172_177) NB172_177) hb); replace BK177 := zm (blk_below (g := gb177) (o := .cells #[.slice Ao152 t173.length co152, .int .i64 t176] 64 (0, 0)) (zput (zput (zb BK177) 0) 1) hb); replace HB := zm (below_step zB hb); clear hb ho0; obtain ⟨Ao159, co159, eo159⟩ := Kd.R_slice HO180.out; subst eo159; obtain ⟨Ao160, co160, eo160⟩ := Kd.R_slice HO167.out; subst eo160) | ((with_reducible refine gate_callee (f := 50) rfl ?_); refine zg #[.slice Ao159 t178.length co159, .slice Ao160 t165.length co160] Try.func50 ?_; (with_reducible refine (laws_eqIntS.calls k _ _ t178 _ _ t165 true _ ?side1 ?side2 ?side3 ?side4 A25.out).mono ?_); (case side1 => repeat (first | exact (Kd.R_reads' HO180.out).2.2 | (with_reducible refine Kd.C_alloc ?_ _) | (with_reducible refine Kd.C_drewN ?_ _) | (with_reducible refine Kd.C_drew ?_))); (case side2 => exact (Kd.R_reads' HO180.out).2.1); (case side3 => repeat (first | exact (Kd.R_reads' HO167.out).2.2 | (with_reducible refine Kd.C_alloc ?_ _) | (with_reducible refine Kd.C_drewN ?_ _) | (with_reducible refine Kd.C_drew ?_))); (case side4 => exact (Kd.R_reads' HO167.out).2.1); rintro e w' ⟨rfl, ⟨nd, rfl⟩⟩; refine ⟨_, rfl, ?_⟩))
      (try (rw [drewN_self w158]; generalize hq_ : World.drewN w158 _ = w158; have n0_ := zm (Kd.R_at hq_ HO159.out); have n1_ := zm (Kd.R_at hq_ HO163.out); have n2_ := zm (Kd.R_at hq_ HO167.out); have n3_ := zm (Kd.R_at hq_ HO170.out); have n4_ := zm (Kd.R_at hq_ HO175.out); have n5_ := zm (Kd.R_at hq_ HO180.out); have n6_ := zm (blk_at hq_ BK153.out); have n7_ := zm (blk_at hq_ BK154.out); have n8_ := zm (blk_at hq_ BK172.out); have n9_ := zm (blk_at hq_ BK177.out); have n10_ := zm (below_at hq_ HB.out); clear hq_ HO159 HO163 HO167 HO170 HO175 HO180 BK153 BK154 BK172 BK177 HB; have HO159 := n0_; have HO163 := n1_; have HO167 := n2_; have HO170 := n3_; have HO175 := n4_; have HO180 := n5_; have BK153 := n6_; have BK154 := n7_; have BK172 := n8_; have BK177 := n9_; have HB := n10_; clear n0_ n1_ n2_ n3_ n4_ n5_ n6_ n7_ n8_ n9_ n10_))
      replace HO159 := zm (Kd.R_drew HO159.out)
      replace HO163 := zm (Kd.R_drew HO163.out)
      replace HO167 := zm (Kd.R_drew HO167.out)
      replace HO170 := zm (Kd.R_drew HO170.out)
      replace HO175 := zm (Kd.R_drew HO175.out)
      replace HO180 := zm (Kd.R_drew HO180.out)
      replace BK153 := zm (blk_drew BK153.out)
      replace BK154 := zm (blk_drew BK154.out)
      replace BK172 := zm (blk_drew BK172.out)
      replace BK177 := zm (blk_drew BK177.out)
      replace HB := zm (below_drew1 HB.out)
      refine start_ (n := 5) (S := fun w' => w'.cell? ⟨gb172, 0, none⟩ = some (.slice Ao145 t168.length co145) ∧ w'.cell? ⟨gb172, 1, none⟩ = some (.int .i64 t171) ∧ w'.cell? ⟨gb153, 0, none⟩ = some (.slice A0_0 l0_0.length c0_0) ∧ w'.cell? ⟨gb153, 1, none⟩ = some (.int .i64 a0_1)) (ds := []) (zl 5 0) (by kernel_rfl) rfl rfl ⟨(blk_cell BK172.out 0).trans rfl, (blk_cell BK172.out 1).trans rfl, (blk_cell BK153.out 0).trans rfl, (blk_cell BK153.out 1).trans rfl⟩ (fun hHeld => ?_)
      generalize w158.drew = w161 at HO159 HO163 HO167 HO170 HO175 HO180 BK153 BK154 BK172 BK177 HB hHeld ⊢
      refine zt 0 (some 40) (zl 5 1) ?_
      refine zt 1 (some 41) (zl 5 3) ?_
      refine zo 2 (some 42) (zl 5 7) (fun K hK => ?_)
      refine zgo #[.agg #[.slice A0_0 l0_0.length c0_0, .int .i64 a0_1]] Try.func48 ?_
      with_reducible refine (laws_toTree.calls k _ _ l0_0 a0_1 t182 t185 _ (zk (Kd.C_below HR0_0.out HB.out)) HC0_0.out A27.out).mono ?_
      rintro e w162 ⟨v183, rfl, ho0, hb⟩
      refine ⟨_, rfl, ?_⟩
      have HO184 := zm (Kd.R_lower (Kd.R_new' (Kd.R_new' (Kd.R_new' (Kd.R_new' (Kd.R_new' (Kd.R_new' ho0 (Kd.R_lt (zr HO159))) (Kd.R_lt (zr HO163))) (Kd.R_lt (zr HO167))) (Kd.R_lt (zr HO170))) (Kd.R_lt (zr HO175))) (Kd.R_lt (zr HO180))) (below_size zB))
      replace HO159 := zm (Kd.R_elder' (zr HO159) (Kd.R_base ho0) hb)
      replace HO163 := zm (Kd.R_elder' (zr HO163) (Kd.R_base ho0) hb)
      replace HO167 := zm (Kd.R_elder' (zr HO167) (Kd.R_base ho0) hb)
      replace HO170 := zm (Kd.R_elder' (zr HO170) (Kd.R_base ho0) hb)
      replace HO175 := zm (Kd.R_elder' (zr HO175) (Kd.R_base ho0) hb)
      replace HO180 := zm (Kd.R_elder' (zr HO180) (Kd.R_base ho0) hb)
      replace BK153 := zm (blk_below (zb BK153) hb)
      replace BK154 := zm (blk_below (zb BK154) hb)
      replace BK172 := zm (blk_below (zb BK172) hb)
      replace BK177 := zm (blk_below (zb BK177) hb)
      replace HB := zm (below_step zB hb)
      (try clear hb)
      (try clear hb2)
      (try clear hk)
      (try clear hi)
      (try clear ho0)
      obtain ⟨Ao163, co163, eo163⟩ := Kd.R_slice HO184.out
      (first | subst eo163 | (injection eo163 with f1_ f2_ f3_; have f4_ := f1_.symm; have f5_ := f3_.symm; clear f1_ f2_ f3_; subst f4_; subst f5_))
      refine hK.out _ _ ⟨(blk_cell BK172.out 0).trans rfl, (blk_cell BK172.out 1).trans rfl, (blk_cell BK153.out 0).trans rfl, (blk_cell BK153.out 1).trans rfl⟩ (fun hHeld => ?_)
      clear hK K
      refine zn ?_
      refine zo 3 (some 43) (zl 5 15) (fun K hK => ?_)
      refine zgo #[.agg #[.slice Ao145 t168.length co145, .int .i64 t171], .agg #[.slice Ao163 t182.length co163, .int .i64 t185]] Try.func51 ?_
      with_reducible refine (laws_eqTree.calls k _ _ t168 t171 _ _ t182 t185 true _ ?side1 ?side2 ?side3 ?side4 A28.out).mono ?_
      (case side1 => repeat (first | exact (Kd.R_reads' HO170.out).2.2 | (with_reducible refine Kd.C_alloc ?_ _) | (with_reducible refine Kd.C_drewN ?_ _) | (with_reducible refine Kd.C_drew ?_)))
      (case side2 => exact (Kd.R_reads' HO170.out).2.1)
      (case side3 => repeat (first | exact (Kd.R_reads' HO184.out).2.2 | (with_reducible refine Kd.C_alloc ?_ _) | (with_reducible refine Kd.C_drewN ?_ _) | (with_reducible refine Kd.C_drew ?_)))
      (case side4 => exact (Kd.R_reads' HO184.out).2.1)
      rintro e w164 ⟨rfl, hb⟩
      refine ⟨_, rfl, ?_⟩
      replace HO159 := zm (Kd.R_below (zr HO159) hb)
      replace HO163 := zm (Kd.R_below (zr HO163) hb)
      replace HO167 := zm (Kd.R_below (zr HO167) hb)
      replace HO170 := zm (Kd.R_below (zr HO170) hb)
      replace HO175 := zm (Kd.R_below (zr HO175) hb)
      replace HO180 := zm (Kd.R_below (zr HO180) hb)
      replace HO184 := zm (Kd.R_below (zr HO184) hb)
      replace BK153 := zm (blk_below (zb BK153) hb)
      replace BK154 := zm (blk_below (zb BK154) hb)
      replace BK172 := zm (blk_below (zb BK172) hb)
      replace BK177 := zm (blk_below (zb BK177) hb)
      replace HB := zm (below_step zB hb)
      (try clear hb)
      (try clear hb2)
      (try clear hk)
      (try clear hi)
      refine hK.out _ _ ⟨(blk_cell BK172.out 0).trans rfl, (blk_cell BK172.out 1).trans rfl, (blk_cell BK153.out 0).trans rfl, (blk_cell BK153.out 1).trans rfl⟩ (fun hHeld => ?_)
      clear hK K
      refine zn ?_
      refine zp 4 (some 44) (zl 5 31) ?_
      refine done_ (by kernel_rfl) ?_
      try go_wp2
      replace HO159 := zm (Kd.R_drew HO159.out)
      replace HO163 := zm (Kd.R_drew HO163.out)
      replace HO167 := zm (Kd.R_drew HO167.out)
      replace HO170 := zm (Kd.R_drew HO170.out)
      replace HO175 := zm (Kd.R_drew HO175.out)
      replace HO180 := zm (Kd.R_drew HO180.out)
      replace HO184 := zm (Kd.R_drew HO184.out)
      replace BK153 := zm (blk_drew BK153.out)
      replace BK154 := zm (blk_drew BK154.out)
      replace BK172 := zm (blk_drew BK172.out)
      replace BK177 := zm (blk_drew BK177.out)
      replace HB := zm (below_drew1 HB.out)
      refine start_ (n := 5) (S := fun w' => w'.cell? ⟨gb177, 0, none⟩ = some (.slice Ao152 t173.length co152) ∧ w'.cell? ⟨gb177, 1, none⟩ = some (.int .i64 t176) ∧ w'.cell? ⟨gb154, 0, none⟩ = some (.slice A1_0 l1_0.length c1_0) ∧ w'.cell? ⟨gb154, 1, none⟩ = some (.int .i64 a1_1)) (ds := []) (zl 5 0) (by kernel_rfl) rfl rfl ⟨(blk_cell BK177.out 0).trans rfl, (blk_cell BK177.out 1).trans rfl, (blk_cell BK154.out 0).trans rfl, (blk_cell BK154.out 1).trans rfl⟩ (fun hHeld => ?_)
      generalize w164.drew = w165 at HO159 HO163 HO167 HO170 HO175 HO180 HO184 BK153 BK154 BK172 BK177 HB hHeld ⊢
      refine zt 0 (some 45) (zl 5 1) ?_
      refine zt 1 (some 46) (zl 5 3) ?_
      refine zo 2 (some 47) (zl 5 7) (fun K hK => ?_)
      refine zgo #[.agg #[.slice A1_0 l1_0.length c1_0, .int .i64 a1_1]] Try.func48 ?_
      with_reducible refine (laws_toTree.calls k _ _ l1_0 a1_1 t187 t190 _ (zk (Kd.C_below HR1_0.out HB.out)) HC1_0.out A30.out).mono ?_
      rintro e w166 ⟨v188, rfl, ho0, hb⟩
      refine ⟨_, rfl, ?_⟩
      have HO189 := zm (Kd.R_lower (Kd.R_new' (Kd.R_new' (Kd.R_new' (Kd.R_new' (Kd.R_new' (Kd.R_new' (Kd.R_new' ho0 (Kd.R_lt (zr HO159))) (Kd.R_lt (zr HO163))) (Kd.R_lt (zr HO167))) (Kd.R_lt (zr HO170))) (Kd.R_lt (zr HO175))) (Kd.R_lt (zr HO180))) (Kd.R_lt (zr HO184))) (below_size zB))
      replace HO159 := zm (Kd.R_elder' (zr HO159) (Kd.R_base ho0) hb)
      replace HO163 := zm (Kd.R_elder' (zr HO163) (Kd.R_base ho0) hb)
      replace HO167 := zm (Kd.R_elder' (zr HO167) (Kd.R_base ho0) hb)
      replace HO170 := zm (Kd.R_elder' (zr HO170) (Kd.R_base ho0) hb)
      replace HO175 := zm (Kd.R_elder' (zr HO175) (Kd.R_base ho0) hb)
      replace HO180 := zm (Kd.R_elder' (zr HO180) (Kd.R_base ho0) hb)
      replace HO184 := zm (Kd.R_elder' (zr HO184) (Kd.R_base ho0) hb)
      replace BK153 := zm (blk_below (zb BK153) hb)
      replace BK154 := zm (blk_below (zb BK154) hb)
      replace BK172 := zm (blk_below (zb BK172) hb)
      replace BK177 := zm (blk_below (zb BK177) hb)
      replace HB := zm (below_step zB hb)
      (try clear hb)
      (try clear hb2)
      (try clear hk)
      (try clear hi)
      (try clear ho0)
      obtain ⟨Ao167, co167, eo167⟩ := Kd.R_slice HO189.out
      (first | subst eo167 | (injection eo167 with f1_ f2_ f3_; have f4_ := f1_.symm; have f5_ := f3_.symm; clear f1_ f2_ f3_; subst f4_; subst f5_))
      refine hK.out _ _ ⟨(blk_cell BK177.out 0).trans rfl, (blk_cell BK177.out 1).trans rfl, (blk_cell BK154.out 0).trans rfl, (blk_cell BK154.out 1).trans rfl⟩ (fun hHeld => ?_)
      clear hK K
      refine zn ?_
      refine zo 3 (some 48) (zl 5 15) (fun K hK => ?_)
      refine zgo #[.agg #[.slice Ao152 t173.length co152, .int .i64 t176], .agg #[.slice Ao167 t187.length co167, .int .i64 t190]] Try.func51 ?_
      with_reducible refine (laws_eqTree.calls k _ _ t173 t176 _ _ t187 t190 false _ ?side1 ?side2 ?side3 ?side4 A31.out).mono ?_
      (case side1 => repeat (first | exact (Kd.R_reads' HO175.out).2.2 | (with_reducible refine Kd.C_alloc ?_ _) | (with_reducible refine Kd.C_drewN ?_ _) | (with_reducible refine Kd.C_drew ?_)))
      (case side2 => exact (Kd.R_reads' HO175.out).2.1)
      (case side3 => repeat (first | exact (Kd.R_reads' HO189.out).2.2 | (with_reducible refine Kd.C_alloc ?_ _) | (with_reducible refine Kd.C_drewN ?_ _) | (with_reducible refine Kd.C_drew ?_)))
      (case side4 => exact (Kd.R_reads' HO189.out).2.1)
      rintro e w168 ⟨rfl, hb⟩
      refine ⟨_, rfl, ?_⟩
      replace HO159 := zm (Kd.R_below (zr HO159) hb)
      replace HO163 := zm (Kd.R_below (zr HO163) hb)
      replace HO167 := zm (Kd.R_below (zr HO167) hb)
      replace HO170 := zm (Kd.R_below (zr HO170) hb)
      replace HO175 := zm (Kd.R_below (zr HO175) hb)
      replace HO180 := zm (Kd.R_below (zr HO180) hb)
      replace HO184 := zm (Kd.R_below (zr HO184) hb)
      replace HO189 := zm (Kd.R_below (zr HO189) hb)
      replace BK153 := zm (blk_below (zb BK153) hb)
      replace BK154 := zm (blk_below (zb BK154) hb)
      replace BK172 := zm (blk_below (zb BK172) hb)
      replace BK177 := zm (blk_below (zb BK177) hb)
      replace HB := zm (below_step zB hb)
      (try clear hb)
      (try clear hb2)
      (try clear hk)
      (try clear hi)
      refine hK.out _ _ ⟨(blk_cell BK177.out 0).trans rfl, (blk_cell BK177.out 1).trans rfl, (blk_cell BK154.out 0).trans rfl, (blk_cell BK154.out 1).trans rfl⟩ (fun hHeld => ?_)
      clear hK K
      refine zn ?_
      refine zp 4 (some 49) (zl 5 31) ?_
      refine done_ (by kernel_rfl) ?_
      try go_wp2
      go_ret
      exact ⟨zE, zB⟩
    ·replace c29 := Bool.eq_false_iff.mpr c29
     subst c29
     have H1 : (some false) = some r := by rw [if_neg (show ¬ (false = true) by decide)] at H; exact H
     clear H
     have H := H1
     clear H1
     obtain rfl := Option.some.inj H
     go_enter Try.func14, Try.ntmps14
     try go_wp2_with (first | ((with_reducible refine gate_dst (N := 2) rfl ?_); refine zbox 2 #[.slice A0_0 l0_0.length c0_0, .int .i64 a0_1] 61 ?_; intro gb153 hg w169 hbox hb; have BK153 := zm (hbox); have GW153 := zge w hg zB; have GE153 := zge w hg zB; replace HB := zm (below_step zB hb); clear hb hbox hg) | ((with_reducible refine gate_dst (N := 3) rfl ?_); refine zbox 3 #[.slice A1_0 l1_0.length c1_0, .int .i64 a1_1] 61 ?_; intro gb154 hg w170 hbox hb; have BK154 := zm (hbox); have GW154 := zge w hg zB; have GE154 := zge w hg zB; replace HB := zm (below_step zB hb); have NB153_154 := zlt hg (zb BK153); have NB154_153 := zgt hg (zb BK153); replace BK153 := zm (blk_below (zb BK153) hb); clear hb hbox hg; have hnb171 := NB153_154.out; have hnc171 := NB154_153.out; have hcz172_0 : w170.cell? ⟨gb153, 0, none⟩ = some (.slice A0_0 l0_0.length c0_0) := (blk_cell BK153.out 0).trans rfl; have hcz172_1 : w170.cell? ⟨gb153, 1, none⟩ = some (.int .i64 a0_1) := (blk_cell BK153.out 1).trans rfl; have hfz172_0 := blk_frozen BK153.out 0; have hfz172_1 := blk_frozen BK153.out 1) | ((with_reducible refine gate_callee (f := 46) rfl ?_); refine zg #[.agg #[.slice A0_0 l0_0.length c0_0, .int .i64 a0_1], .int .i64 1048576] Try.func46 ?_; (with_reducible refine (laws_szTree.calls _ _ l0_0 a0_1 1048576 t155 _ (zk (Kd.C_below HR0_0.out HB.out)) HC0_0.out A3.out).mono ?_); rintro e w173 ⟨rfl, hb⟩; refine ⟨_, rfl, ?_⟩; replace BK153 := zm (blk_below (zb BK153) hb); replace BK154 := zm (blk_below (zb BK154) hb); replace HB := zm (below_step zB hb); clear hb; have hcz174_0 : w173.cell? ⟨gb154, 0, none⟩ = some (.slice A1_0 l1_0.length c1_0) := (blk_cell BK154.out 0).trans rfl; have hcz174_1 : w173.cell? ⟨gb154, 1, none⟩ = some (.int .i64 a1_1) := (blk_cell BK154.out 1).trans rfl; have hfz174_0 := blk_frozen BK154.out 0; have hfz174_1 := blk_frozen BK154.out 1) | ((with_reducible refine gate_callee (f := 46) rfl ?_); refine zg #[.agg #[.slice A1_0 l1_0.length c1_0, .int .i64 a1_1], .int .i64 t155] Try.func46 ?_; (with_reducible refine (laws_szTree.calls _ _ l1_0 a1_1 t155 t156 _ (zk (Kd.C_below HR1_0.out HB.out)) HC1_0.out A10.out).mono ?_); rintro e w175 ⟨rfl, hb⟩; refine ⟨_, rfl, ?_⟩; replace BK153 := zm (blk_below (zb BK153) hb); replace BK154 := zm (blk_below (zb BK154) hb); replace HB := zm (below_step zB hb); clear hb))
     replace BK153 := zm (blk_drew BK153.out)
     replace BK154 := zm (blk_drew BK154.out)
     replace HB := zm (below_drew1 HB.out)
     refine start_ (n := 6) (S := fun w' => w'.cell? ⟨gb153, 0, none⟩ = some (.slice A0_0 l0_0.length c0_0) ∧ w'.cell? ⟨gb153, 1, none⟩ = some (.int .i64 a0_1) ∧ w'.cell? ⟨gb154, 0, none⟩ = some (.slice A1_0 l1_0.length c1_0) ∧ w'.cell? ⟨gb154, 1, none⟩ = some (.int .i64 a1_1)) (ds := []) (zl 6 0) (by kernel_rfl) rfl rfl ⟨(blk_cell BK153.out 0).trans rfl, (blk_cell BK153.out 1).trans rfl, (blk_cell BK154.out 0).trans rfl, (blk_cell BK154.out 1).trans rfl⟩ (fun hHeld => ?_)
     generalize w175.drew = w176 at BK153 BK154 HB hHeld ⊢
     refine zt 0 (some 24) (zl 6 1) ?_
     refine zt 2 (some 26) (zl 6 5) ?_
     refine zo 1 (some 25) (zl 6 7) (fun K hK => ?_)
     refine zgo #[.agg #[.slice A0_0 l0_0.length c0_0, .int .i64 a0_1]] Try.func48 ?_
     with_reducible refine (laws_toTree.calls k _ _ l0_0 a0_1 t157 t160 _ (zk (Kd.C_below HR0_0.out HB.out)) HC0_0.out A19.out).mono ?_
     rintro e w177 ⟨v158, rfl, ho0, hb⟩
     refine ⟨_, rfl, ?_⟩
     have HO159 := zm (Kd.R_lower ho0 (below_size zB))
     replace BK153 := zm (blk_below (zb BK153) hb)
     replace BK154 := zm (blk_below (zb BK154) hb)
     replace HB := zm (below_step zB hb)
     (try clear hb)
     (try clear hb2)
     (try clear hk)
     (try clear hi)
     (try clear ho0)
     refine hK.out _ _ ⟨(blk_cell BK153.out 0).trans rfl, (blk_cell BK153.out 1).trans rfl, (blk_cell BK154.out 0).trans rfl, (blk_cell BK154.out 1).trans rfl⟩ (fun hHeld => ?_)
     clear hK K
     refine zn ?_
     refine zo 3 (some 27) (zl 6 15) (fun K hK => ?_)
     refine zgo #[.agg #[.slice A1_0 l1_0.length c1_0, .int .i64 a1_1]] Try.func48 ?_
     with_reducible refine (laws_toTree.calls k _ _ l1_0 a1_1 t161 t164 _ (zk (Kd.C_below HR1_0.out HB.out)) HC1_0.out A20.out).mono ?_
     rintro e w178 ⟨v162, rfl, ho0, hb⟩
     refine ⟨_, rfl, ?_⟩
     have HO163 := zm (Kd.R_lower (Kd.R_new' ho0 (Kd.R_lt (zr HO159))) (below_size zB))
     replace HO159 := zm (Kd.R_elder' (zr HO159) (Kd.R_base ho0) hb)
     replace BK153 := zm (blk_below (zb BK153) hb)
     replace BK154 := zm (blk_below (zb BK154) hb)
     replace HB := zm (below_step zB hb)
     (try clear hb)
     (try clear hb2)
     (try clear hk)
     (try clear hi)
     (try clear ho0)
     obtain ⟨Ao179, co179, eo179⟩ := Kd.R_slice HO159.out
     (first | subst eo179 | (injection eo179 with f1_ f2_ f3_; have f4_ := f1_.symm; have f5_ := f3_.symm; clear f1_ f2_ f3_; subst f4_; subst f5_))
     obtain ⟨Ao180, co180, eo180⟩ := Kd.R_slice HO163.out
     (first | subst eo180 | (injection eo180 with f1_ f2_ f3_; have f4_ := f1_.symm; have f5_ := f3_.symm; clear f1_ f2_ f3_; subst f4_; subst f5_))
     refine hK.out _ _ ⟨(blk_cell BK153.out 0).trans rfl, (blk_cell BK153.out 1).trans rfl, (blk_cell BK154.out 0).trans rfl, (blk_cell BK154.out 1).trans rfl⟩ (fun hHeld => ?_)
     clear hK K
     refine zn ?_
     refine zo 4 (some 28) (zl 6 31) (fun K hK => ?_)
     refine zgo #[.agg #[.slice Ao179 t157.length co179, .int .i64 t160], .agg #[.slice Ao180 t161.length co180, .int .i64 t164]] Try.func47 ?_
     with_reducible refine (spec_Differ.calls k _ _ t157 t160 _ _ t161 t164 t165 _ ?side1 ?side2 ?side3 ?side4 A21.out).mono ?_
     (case side1 => repeat (first | exact (Kd.R_reads' HO159.out).2.2 | (with_reducible refine Kd.C_alloc ?_ _) | (with_reducible refine Kd.C_drewN ?_ _) | (with_reducible refine Kd.C_drew ?_)))
     (case side2 => exact (Kd.R_reads' HO159.out).2.1)
     (case side3 => repeat (first | exact (Kd.R_reads' HO163.out).2.2 | (with_reducible refine Kd.C_alloc ?_ _) | (with_reducible refine Kd.C_drewN ?_ _) | (with_reducible refine Kd.C_drew ?_)))
     (case side4 => exact (Kd.R_reads' HO163.out).2.1)
     rintro e w181 ⟨v166, rfl, ho0, hb⟩
     refine ⟨_, rfl, ?_⟩
     have HO167 := zm (Kd.R_lower (Kd.R_new' (Kd.R_new' ho0 (Kd.R_lt (zr HO159))) (Kd.R_lt (zr HO163))) (below_size zB))
     replace HO159 := zm (Kd.R_elder' (zr HO159) (Kd.R_base ho0) hb)
     replace HO163 := zm (Kd.R_elder' (zr HO163) (Kd.R_base ho0) hb)
     replace BK153 := zm (blk_below (zb BK153) hb)
     replace BK154 := zm (blk_below (zb BK154) hb)
     replace HB := zm (below_step zB hb)
     (try clear hb)
     (try clear hb2)
     (try clear hk)
     (try clear hi)
     (try clear ho0)
     refine hK.out _ _ ⟨(blk_cell BK153.out 0).trans rfl, (blk_cell BK153.out 1).trans rfl, (blk_cell BK154.out 0).trans rfl, (blk_cell BK154.out 1).trans rfl⟩ (fun hHeld => ?_)
     clear hK K
     refine zn ?_
     refine zp 5 (some 6) (zl 6 63) ?_
     refine done_ (by kernel_rfl) ?_
     have hcz182_0 : w181.cell? ⟨gb153, 0, none⟩ = some (.slice A0_0 l0_0.length c0_0) := (blk_cell BK153.out 0).trans rfl
     have hcz182_1 : w181.cell? ⟨gb153, 1, none⟩ = some (.int .i64 a0_1) := (blk_cell BK153.out 1).trans rfl
     have hfz182_0 := blk_frozen BK153.out 0
     have hfz182_1 := blk_frozen BK153.out 1
     try go_wp2_with (first | ((with_reducible refine gate_callee (f := 48) rfl ?_); refine zg #[.agg #[.slice A0_0 l0_0.length c0_0, .int .i64 a0_1]] Try.func48 ?_; (with_reducible refine (laws_toTree.calls k _ _ l0_0 a0_1 t168 t171 _ (zk (Kd.C_below HR0_0.out HB.out)) HC0_0.out A22.out).mono ?_); rintro e w183 ⟨v169, rfl, ho0, hb⟩; refine ⟨_, rfl, ?_⟩; have HO170 := zm (Kd.R_lower (Kd.R_new' (Kd.R_new' (Kd.R_new' ho0 (Kd.R_lt (zr HO159))) (Kd.R_lt (zr HO163))) (Kd.R_lt (zr HO167))) (below_size zB)); replace HO159 := zm (Kd.R_elder' (zr HO159) (Kd.R_base ho0) hb); replace HO163 := zm (Kd.R_elder' (zr HO163) (Kd.R_base ho0) hb); replace HO167 := zm (Kd.R_elder' (zr HO167) (Kd.R_base ho0) hb); replace BK153 := zm (blk_below (zb BK153) hb); replace BK154 := zm (blk_below (zb BK154) hb); replace HB := zm (below_step zB hb); clear hb ho0) | ((with_reducible refine gate_dst (N := 7) rfl ?_); refine zbox 7 #[.slice none 0 0, .int .i64 0] 64 ?_; intro gb172 hg w184 hbox hb; replace HO159 := zm (Kd.R_below (zr HO159) hb); replace HO163 := zm (Kd.R_below (zr HO163) hb); replace HO167 := zm (Kd.R_below (zr HO167) hb); replace HO170 := zm (Kd.R_below (zr HO170) hb); have BK172 := zm (hbox); have GW172 := zge w hg zB; have GE172 := zge w hg zB; replace HB := zm (below_step zB hb); have NB153_172 := zlt hg (zb BK153); have NB172_153 := zgt hg (zb BK153); replace BK153 := zm (blk_below (zb BK153) hb); have NB154_172 := zlt hg (zb BK154); have NB172_154 := zgt hg (zb BK154); replace BK154 := zm (blk_below (zb BK154) hb); clear hb hbox hg; obtain ⟨Ao185, co185, eo185⟩ := Kd.R_slice HO170.out; subst eo185; have hnb186 := NB172_153.out; have hnc186 := NB153_172.out; have hnb187 := NB172_154.out; have hnc187 := NB154_172.out; have hcz188_0 : w184.cell? ⟨gb172, 0, none⟩ = some (.slice none 0 0) := (blk_cell BK172.out 0).trans rfl; have hcz188_1 : w184.cell? ⟨gb172, 1, none⟩ = some (.int .i64 0) := (blk_cell BK172.out 1).trans rfl; have hfz188_0 := blk_frozen BK172.out 0; have hfz188_1 := blk_frozen BK172.out 1; have hcz189_0 : w184.cell? ⟨gb154, 0, none⟩ = some (.slice A1_0 l1_0.length c1_0) := (blk_cell BK154.out 0).trans rfl; have hcz189_1 : w184.cell? ⟨gb154, 1, none⟩ = some (.int .i64 a1_1) := (blk_cell BK154.out 1).trans rfl; have hfz189_0 := blk_frozen BK154.out 0; have hfz189_1 := blk_frozen BK154.out 1) | ((with_reducible refine gate_callee (f := 48) rfl ?_); refine zg #[.agg #[.slice A1_0 l1_0.length c1_0, .int .i64 a1_1]] Try.func48 ?_; (with_reducible refine (laws_toTree.calls k _ _ l1_0 a1_1 t173 t176 _ ?side1 HC1_0.out A23.out).mono ?_); (case side1 => exact Kd.C_below HR1_0.out zB); rintro e w190 ⟨v174, rfl, ho0, hb⟩; refine ⟨_, rfl, ?_⟩; have HO175 := zm (Kd.R_lower (Kd.R_new' (Kd.R_new' (Kd.R_new' (Kd.R_new' ho0 (Kd.R_lt (zrs <| (Kd.R_mono (zfr (zfr (Kd.R_types HO159.out BK172.out (by decide)))) (fun _ h_ => h_.1))))) (Kd.R_lt (zrs <| (Kd.R_mono (zfr (zfr (Kd.R_types HO163.out BK172.out (by decide)))) (fun _ h_ => h_.1))))) (Kd.R_lt (zrs <| (Kd.R_mono (zfr (zfr (Kd.R_types HO167.out BK172.out (by decide)))) (fun _ h_ => h_.1))))) (Kd.R_lt (zrs <| (Kd.R_mono (zfr (zfr (Kd.R_types HO170.out BK172.out (by decide)))) (fun _ h_ => h_.1))))) (below_size zB)); replace HO159 := zm (Kd.R_elder' (zrs <| (Kd.R_mono (zfr (zfr (Kd.R_types HO159.out BK172.out (by decide)))) (fun _ h_ => h_.1))) (Kd.R_base ho0) hb); replace HO163 := zm (Kd.R_elder' (zrs <| (Kd.R_mono (zfr (zfr (Kd.R_types HO163.out BK172.out (by decide)))) (fun _ h_ => h_.1))) (Kd.R_base ho0) hb); replace HO167 := zm (Kd.R_elder' (zrs <| (Kd.R_mono (zfr (zfr (Kd.R_types HO167.out BK172.out (by decide)))) (fun _ h_ => h_.1))) (Kd.R_base ho0) hb); replace HO170 := zm (Kd.R_elder' (zrs <| (Kd.R_mono (zfr (zfr (Kd.R_types HO170.out BK172.out (by decide)))) (fun _ h_ => h_.1))) (Kd.R_base ho0) hb); replace BK153 := zm (blk_below (g := gb153) (o := .cells #[.slice A0_0 l0_0.length c0_0, .int .i64 a0_1] 61 (0, 0)) (zfar (zfar (zb BK153) NB153_172) NB153_172) hb); replace BK154 := zm (blk_below (g := gb154) (o := .cells #[.slice A1_0 l1_0.length c1_0, .int .i64 a1_1] 61 (0, 0)) (zfar (zfar (zb BK154) NB154_172) NB154_172) hb); replace BK172 := zm (blk_below (g := gb172) (o := .cells #[.slice Ao185 t168.length co185, .int .i64 t171] 64 (0, 0)) (zput (zput (zb BK172) 0) 1) hb); replace HB := zm (below_step zB hb); clear hb ho0) | ((with_reducible refine gate_dst (N := 8) rfl ?_); refine zbox 8 #[.slice none 0 0, .int .i64 0] 64 ?_; intro gb177 hg w191 hbox hb; replace HO159 := zm (Kd.R_below (zr HO159) hb); replace HO163 := zm (Kd.R_below (zr HO163) hb); replace HO167 := zm (Kd.R_below (zr HO167) hb); replace HO170 := zm (Kd.R_below (zr HO170) hb); replace HO175 := zm (Kd.R_below (zr HO175) hb); have BK177 := zm (hbox); have GW177 := zge w hg zB; have GE177 := zge w hg zB; replace HB := zm (below_step zB hb); have NB153_177 := zlt hg (zb BK153); have NB177_153 := zgt hg (zb BK153); replace BK153 := zm (blk_below (zb BK153) hb); have NB154_177 := zlt hg (zb BK154); have NB177_154 := zgt hg (zb BK154); replace BK154 := zm (blk_below (zb BK154) hb); have NB172_177 := zlt hg (zb BK172); have NB177_172 := zgt hg (zb BK172); replace BK172 := zm (blk_below (zb BK172) hb); clear hb hbox hg; obtain ⟨Ao192, co192, eo192⟩ := Kd.R_slice HO175.out; subst eo192; have hnb193 := NB177_153.out; have hnc193 := NB153_177.out; have hnb194 := NB177_154.out; have hnc194 := NB154_177.out; have hnb195 := NB177_172.out; have hnc195 := NB172_177.out; have hcz196_0 : w191.cell? ⟨gb177, 0, none⟩ = some (.slice none 0 0) := (blk_cell BK177.out 0).trans rfl; have hcz196_1 : w191.cell? ⟨gb177, 1, none⟩ = some (.int .i64 0) := (blk_cell BK177.out 1).trans rfl; have hfz196_0 := blk_frozen BK177.out 0; have hfz196_1 := blk_frozen BK177.out 1; have hcz197_0 : w191.cell? ⟨gb172, 0, none⟩ = some (.slice Ao185 t168.length co185) := (blk_cell BK172.out 0).trans rfl; have hcz197_1 : w191.cell? ⟨gb172, 1, none⟩ = some (.int .i64 t171) := (blk_cell BK172.out 1).trans rfl; have hfz197_0 := blk_frozen BK172.out 0; have hfz197_1 := blk_frozen BK172.out 1) | ((with_reducible refine gate_callee (f := 49) rfl ?_); refine zg #[.agg #[.slice Ao185 t168.length co185, .int .i64 t171], .agg #[.slice Ao192 t173.length co192, .int .i64 t176]] Try.func49 ?_; (with_reducible refine (impl_Differ.calls k _ _ t168 t171 _ _ t173 t176 t178 _ ?side1 ?side2 ?side3 ?side4 A24.out).mono ?_); (case side1 => refine (Kd.R_reads' (e := 3) (base := w.heap.size) (ok := fun k_ => ((((True ∧ some k_ ≠ (.slice Ao179 t157.length co179 : Value).ownBlock) ∧ some k_ ≠ (.slice Ao180 t161.length co180 : Value).ownBlock) ∧ some k_ ≠ (v166 : Value).ownBlock) ∧ some k_ ≠ (.slice Ao192 t173.length co192 : Value).ownBlock)) (n := t168.length) (c := co185) ?_).2.2; exact (zrs <| (Kd.R_mono (zfr (zfr (Kd.R_types HO170.out BK177.out (by decide)))) (fun _ h_ => h_.1)))); (case side2 => exact (Kd.R_reads' HO170.out).2.1); (case side3 => refine (Kd.R_reads' (e := 3) (base := w.heap.size) (ok := fun k_ => ((((True ∧ some k_ ≠ (.slice Ao179 t157.length co179 : Value).ownBlock) ∧ some k_ ≠ (.slice Ao180 t161.length co180 : Value).ownBlock) ∧ some k_ ≠ (v166 : Value).ownBlock) ∧ some k_ ≠ (.slice Ao185 t168.length co185 : Value).ownBlock)) (n := t173.length) (c := co192) ?_).2.2; exact (zrs <| (Kd.R_mono (zfr (zfr (Kd.R_types HO175.out BK177.out (by decide)))) (fun _ h_ => h_.1)))); (case side4 => exact (Kd.R_reads' HO175.out).2.1); rintro e w198 ⟨v179, rfl, ho0, hb⟩; refine ⟨_, rfl, ?_⟩; have HO180 := zm (Kd.R_lower (Kd.R_new' (Kd.R_new' (Kd.R_new' (Kd.R_new' (Kd.R_new' ho0 (Kd.R_lt (zrs <| (Kd.R_mono (zfr (zfr (Kd.R_types HO159.out BK177.out (by decide)))) (fun _ h_ => h_.1))))) (Kd.R_lt (zrs <| (Kd.R_mono (zfr (zfr (Kd.R_types HO163.out BK177.out (by decide)))) (fun _ h_ => h_.1))))) (Kd.R_lt (zrs <| (Kd.R_mono (zfr (zfr (Kd.R_types HO167.out BK177.out (by decide)))) (fun _ h_ => h_.1))))) (Kd.R_lt (zrs <| (Kd.R_mono (zfr (zfr (Kd.R_types HO170.out BK177.out (by decide)))) (fun _ h_ => h_.1))))) (Kd.R_lt (zrs <| (Kd.R_mono (zfr (zfr (Kd.R_types HO175.out BK177.out (by decide)))) (fun _ h_ => h_.1))))) (below_size zB)); replace HO159 := zm (Kd.R_elder' (zrs <| (Kd.R_mono (zfr (zfr (Kd.R_types HO159.out BK177.out (by decide)))) (fun _ h_ => h_.1))) (Kd.R_base ho0) hb); replace HO163 := zm (Kd.R_elder' (zrs <| (Kd.R_mono (zfr (zfr (Kd.R_types HO163.out BK177.out (by decide)))) (fun _ h_ => h_.1))) (Kd.R_base ho0) hb); replace HO167 := zm (Kd.R_elder' (zrs <| (Kd.R_mono (zfr (zfr (Kd.R_types HO167.out BK177.out (by decide)))) (fun _ h_ => h_.1))) (Kd.R_base ho0) hb); replace HO170 := zm (Kd.R_elder' (zrs <| (Kd.R_mono (zfr (zfr (Kd.R_types HO170.out BK177.out (by decide)))) (fun _ h_ => h_.1))) (Kd.R_base ho0) hb); replace HO175 := zm (Kd.R_elder' (zrs <| (Kd.R_mono (zfr (zfr (Kd.R_types HO175.out BK177.out (by decide)))) (fun _ h_ => h_.1))) (Kd.R_base ho0) hb); replace BK153 := zm (blk_below (g := gb153) (o := .cells #[.slice A0_0 l0_0.length c0_0, .int .i64 a0_1] 61 (0, 0)) (zfar (zfar (zb BK153) NB153_177) NB153_177) hb); replace BK154 := zm (blk_below (g := gb154) (o := .cells #[.slice A1_0 l1_0.length c1_0, .int .i64 a1_1] 61 (0, 0)) (zfar (zfar (zb BK154) NB154_177) NB154_177) hb); replace BK172 := zm (blk_below (g := gb172) (o := .cells #[.slice Ao185 t168.length co185, .int .i64 t171] 64 (0, 0)) (zfar (zfar (zb BK172) NB172_177) NB172_177) hb); replace BK177 := zm (blk_below (g := gb177) (o := .cells #[.slice Ao192 t173.length co192, .int .i64 t176] 64 (0, 0)) (zput (zput (zb BK177) 0) 1) hb); replace HB := zm (below_step zB hb); clear hb ho0; obtain ⟨Ao199, co199, eo199⟩ := Kd.R_slice HO180.out; subst eo199; obtain ⟨Ao200, co200, eo200⟩ := Kd.R_slice HO167.out; subst eo200) | ((with_reducible refine gate_callee (f := 50) rfl ?_); refine zg #[.slice Ao199 t178.length co199, .slice Ao200 t165.length co200] Try.func50 ?_; (with_reducible refine (laws_eqIntS.calls k _ _ t178 _ _ t165 true _ ?side1 ?side2 ?side3 ?side4 A25.out).mono ?_); (case side1 => repeat (first | exact (Kd.R_reads' HO180.out).2.2 | (with_reducible refine Kd.C_alloc ?_ _) | (with_reducible refine Kd.C_drewN ?_ _) | (with_reducible refine Kd.C_drew ?_))); (case side2 => exact (Kd.R_reads' HO180.out).2.1); (case side3 => repeat (first | exact (Kd.R_reads' HO167.out).2.2 | (with_reducible refine Kd.C_alloc ?_ _) | (with_reducible refine Kd.C_drewN ?_ _) | (with_reducible refine Kd.C_drew ?_))); (case side4 => exact (Kd.R_reads' HO167.out).2.1); rintro e w' ⟨rfl, ⟨nd, rfl⟩⟩; refine ⟨_, rfl, ?_⟩))
     (try (rw [drewN_self w198]; generalize hq_ : World.drewN w198 _ = w198; have n0_ := zm (Kd.R_at hq_ HO159.out); have n1_ := zm (Kd.R_at hq_ HO163.out); have n2_ := zm (Kd.R_at hq_ HO167.out); have n3_ := zm (Kd.R_at hq_ HO170.out); have n4_ := zm (Kd.R_at hq_ HO175.out); have n5_ := zm (Kd.R_at hq_ HO180.out); have n6_ := zm (blk_at hq_ BK153.out); have n7_ := zm (blk_at hq_ BK154.out); have n8_ := zm (blk_at hq_ BK172.out); have n9_ := zm (blk_at hq_ BK177.out); have n10_ := zm (below_at hq_ HB.out); clear hq_ HO159 HO163 HO167 HO170 HO175 HO180 BK153 BK154 BK172 BK177 HB; have HO159 := n0_; have HO163 := n1_; have HO167 := n2_; have HO170 := n3_; have HO175 := n4_; have HO180 := n5_; have BK153 := n6_; have BK154 := n7_; have BK172 := n8_; have BK177 := n9_; have HB := n10_; clear n0_ n1_ n2_ n3_ n4_ n5_ n6_ n7_ n8_ n9_ n10_))
     replace HO159 := zm (Kd.R_drew HO159.out)
     replace HO163 := zm (Kd.R_drew HO163.out)
     replace HO167 := zm (Kd.R_drew HO167.out)
     replace HO170 := zm (Kd.R_drew HO170.out)
     replace HO175 := zm (Kd.R_drew HO175.out)
     replace HO180 := zm (Kd.R_drew HO180.out)
     replace BK153 := zm (blk_drew BK153.out)
     replace BK154 := zm (blk_drew BK154.out)
     replace BK172 := zm (blk_drew BK172.out)
     replace BK177 := zm (blk_drew BK177.out)
     replace HB := zm (below_drew1 HB.out)
     refine start_ (n := 5) (S := fun w' => w'.cell? ⟨gb172, 0, none⟩ = some (.slice Ao185 t168.length co185) ∧ w'.cell? ⟨gb172, 1, none⟩ = some (.int .i64 t171) ∧ w'.cell? ⟨gb153, 0, none⟩ = some (.slice A0_0 l0_0.length c0_0) ∧ w'.cell? ⟨gb153, 1, none⟩ = some (.int .i64 a0_1)) (ds := []) (zl 5 0) (by kernel_rfl) rfl rfl ⟨(blk_cell BK172.out 0).trans rfl, (blk_cell BK172.out 1).trans rfl, (blk_cell BK153.out 0).trans rfl, (blk_cell BK153.out 1).trans rfl⟩ (fun hHeld => ?_)
     generalize w198.drew = w201 at HO159 HO163 HO167 HO170 HO175 HO180 BK153 BK154 BK172 BK177 HB hHeld ⊢
     refine zt 0 (some 40) (zl 5 1) ?_
     refine zt 1 (some 41) (zl 5 3) ?_
     refine zo 2 (some 42) (zl 5 7) (fun K hK => ?_)
     refine zgo #[.agg #[.slice A0_0 l0_0.length c0_0, .int .i64 a0_1]] Try.func48 ?_
     with_reducible refine (laws_toTree.calls k _ _ l0_0 a0_1 t182 t185 _ (zk (Kd.C_below HR0_0.out HB.out)) HC0_0.out A27.out).mono ?_
     rintro e w202 ⟨v183, rfl, ho0, hb⟩
     refine ⟨_, rfl, ?_⟩
     have HO184 := zm (Kd.R_lower (Kd.R_new' (Kd.R_new' (Kd.R_new' (Kd.R_new' (Kd.R_new' (Kd.R_new' ho0 (Kd.R_lt (zr HO159))) (Kd.R_lt (zr HO163))) (Kd.R_lt (zr HO167))) (Kd.R_lt (zr HO170))) (Kd.R_lt (zr HO175))) (Kd.R_lt (zr HO180))) (below_size zB))
     replace HO159 := zm (Kd.R_elder' (zr HO159) (Kd.R_base ho0) hb)
     replace HO163 := zm (Kd.R_elder' (zr HO163) (Kd.R_base ho0) hb)
     replace HO167 := zm (Kd.R_elder' (zr HO167) (Kd.R_base ho0) hb)
     replace HO170 := zm (Kd.R_elder' (zr HO170) (Kd.R_base ho0) hb)
     replace HO175 := zm (Kd.R_elder' (zr HO175) (Kd.R_base ho0) hb)
     replace HO180 := zm (Kd.R_elder' (zr HO180) (Kd.R_base ho0) hb)
     replace BK153 := zm (blk_below (zb BK153) hb)
     replace BK154 := zm (blk_below (zb BK154) hb)
     replace BK172 := zm (blk_below (zb BK172) hb)
     replace BK177 := zm (blk_below (zb BK177) hb)
     replace HB := zm (below_step zB hb)
     (try clear hb)
     (try clear hb2)
     (try clear hk)
     (try clear hi)
     (try clear ho0)
     obtain ⟨Ao203, co203, eo203⟩ := Kd.R_slice HO184.out
     (first | subst eo203 | (injection eo203 with f1_ f2_ f3_; have f4_ := f1_.symm; have f5_ := f3_.symm; clear f1_ f2_ f3_; subst f4_; subst f5_))
     refine hK.out _ _ ⟨(blk_cell BK172.out 0).trans rfl, (blk_cell BK172.out 1).trans rfl, (blk_cell BK153.out 0).trans rfl, (blk_cell BK153.out 1).trans rfl⟩ (fun hHeld => ?_)
     clear hK K
     refine zn ?_
     refine zo 3 (some 43) (zl 5 15) (fun K hK => ?_)
     refine zgo #[.agg #[.slice Ao185 t168.length co185, .int .i64 t171], .agg #[.slice Ao203 t182.length co203, .int .i64 t185]] Try.func51 ?_
     with_reducible refine (laws_eqTree.calls k _ _ t168 t171 _ _ t182 t185 false _ ?side1 ?side2 ?side3 ?side4 A28.out).mono ?_
     (case side1 => repeat (first | exact (Kd.R_reads' HO170.out).2.2 | (with_reducible refine Kd.C_alloc ?_ _) | (with_reducible refine Kd.C_drewN ?_ _) | (with_reducible refine Kd.C_drew ?_)))
     (case side2 => exact (Kd.R_reads' HO170.out).2.1)
     (case side3 => repeat (first | exact (Kd.R_reads' HO184.out).2.2 | (with_reducible refine Kd.C_alloc ?_ _) | (with_reducible refine Kd.C_drewN ?_ _) | (with_reducible refine Kd.C_drew ?_)))
     (case side4 => exact (Kd.R_reads' HO184.out).2.1)
     rintro e w204 ⟨rfl, hb⟩
     refine ⟨_, rfl, ?_⟩
     replace HO159 := zm (Kd.R_below (zr HO159) hb)
     replace HO163 := zm (Kd.R_below (zr HO163) hb)
     replace HO167 := zm (Kd.R_below (zr HO167) hb)
     replace HO170 := zm (Kd.R_below (zr HO170) hb)
     replace HO175 := zm (Kd.R_below (zr HO175) hb)
     replace HO180 := zm (Kd.R_below (zr HO180) hb)
     replace HO184 := zm (Kd.R_below (zr HO184) hb)
     replace BK153 := zm (blk_below (zb BK153) hb)
     replace BK154 := zm (blk_below (zb BK154) hb)
     replace BK172 := zm (blk_below (zb BK172) hb)
     replace BK177 := zm (blk_below (zb BK177) hb)
     replace HB := zm (below_step zB hb)
     (try clear hb)
     (try clear hb2)
     (try clear hk)
     (try clear hi)
     refine hK.out _ _ ⟨(blk_cell BK172.out 0).trans rfl, (blk_cell BK172.out 1).trans rfl, (blk_cell BK153.out 0).trans rfl, (blk_cell BK153.out 1).trans rfl⟩ (fun hHeld => ?_)
     clear hK K
     refine zn ?_
     refine zp 4 (some 44) (zl 5 31) ?_
     refine done_ (by kernel_rfl) ?_
     try go_wp2
     go_ret
     exact ⟨zE, zB⟩
   ·replace c26 := Bool.eq_false_iff.mpr c26
    subst c26
    have H1 : (some false) = some r := by rw [if_neg (show ¬ (false = true) by decide)] at H; exact H
    clear H
    have H := H1
    clear H1
    obtain rfl := Option.some.inj H
    go_enter Try.func14, Try.ntmps14
    try go_wp2_with (first | ((with_reducible refine gate_dst (N := 2) rfl ?_); refine zbox 2 #[.slice A0_0 l0_0.length c0_0, .int .i64 a0_1] 61 ?_; intro gb153 hg w205 hbox hb; have BK153 := zm (hbox); have GW153 := zge w hg zB; have GE153 := zge w hg zB; replace HB := zm (below_step zB hb); clear hb hbox hg) | ((with_reducible refine gate_dst (N := 3) rfl ?_); refine zbox 3 #[.slice A1_0 l1_0.length c1_0, .int .i64 a1_1] 61 ?_; intro gb154 hg w206 hbox hb; have BK154 := zm (hbox); have GW154 := zge w hg zB; have GE154 := zge w hg zB; replace HB := zm (below_step zB hb); have NB153_154 := zlt hg (zb BK153); have NB154_153 := zgt hg (zb BK153); replace BK153 := zm (blk_below (zb BK153) hb); clear hb hbox hg; have hnb207 := NB153_154.out; have hnc207 := NB154_153.out; have hcz208_0 : w206.cell? ⟨gb153, 0, none⟩ = some (.slice A0_0 l0_0.length c0_0) := (blk_cell BK153.out 0).trans rfl; have hcz208_1 : w206.cell? ⟨gb153, 1, none⟩ = some (.int .i64 a0_1) := (blk_cell BK153.out 1).trans rfl; have hfz208_0 := blk_frozen BK153.out 0; have hfz208_1 := blk_frozen BK153.out 1) | ((with_reducible refine gate_callee (f := 46) rfl ?_); refine zg #[.agg #[.slice A0_0 l0_0.length c0_0, .int .i64 a0_1], .int .i64 1048576] Try.func46 ?_; (with_reducible refine (laws_szTree.calls _ _ l0_0 a0_1 1048576 t155 _ (zk (Kd.C_below HR0_0.out HB.out)) HC0_0.out A3.out).mono ?_); rintro e w209 ⟨rfl, hb⟩; refine ⟨_, rfl, ?_⟩; replace BK153 := zm (blk_below (zb BK153) hb); replace BK154 := zm (blk_below (zb BK154) hb); replace HB := zm (below_step zB hb); clear hb; have hcz210_0 : w209.cell? ⟨gb154, 0, none⟩ = some (.slice A1_0 l1_0.length c1_0) := (blk_cell BK154.out 0).trans rfl; have hcz210_1 : w209.cell? ⟨gb154, 1, none⟩ = some (.int .i64 a1_1) := (blk_cell BK154.out 1).trans rfl; have hfz210_0 := blk_frozen BK154.out 0; have hfz210_1 := blk_frozen BK154.out 1) | ((with_reducible refine gate_callee (f := 46) rfl ?_); refine zg #[.agg #[.slice A1_0 l1_0.length c1_0, .int .i64 a1_1], .int .i64 t155] Try.func46 ?_; (with_reducible refine (laws_szTree.calls _ _ l1_0 a1_1 t155 t156 _ (zk (Kd.C_below HR1_0.out HB.out)) HC1_0.out A10.out).mono ?_); rintro e w211 ⟨rfl, hb⟩; refine ⟨_, rfl, ?_⟩; replace BK153 := zm (blk_below (zb BK153) hb); replace BK154 := zm (blk_below (zb BK154) hb); replace HB := zm (below_step zB hb); clear hb))
    replace BK153 := zm (blk_drew BK153.out)
    replace BK154 := zm (blk_drew BK154.out)
    replace HB := zm (below_drew1 HB.out)
    refine start_ (n := 6) (S := fun w' => w'.cell? ⟨gb153, 0, none⟩ = some (.slice A0_0 l0_0.length c0_0) ∧ w'.cell? ⟨gb153, 1, none⟩ = some (.int .i64 a0_1) ∧ w'.cell? ⟨gb154, 0, none⟩ = some (.slice A1_0 l1_0.length c1_0) ∧ w'.cell? ⟨gb154, 1, none⟩ = some (.int .i64 a1_1)) (ds := []) (zl 6 0) (by kernel_rfl) rfl rfl ⟨(blk_cell BK153.out 0).trans rfl, (blk_cell BK153.out 1).trans rfl, (blk_cell BK154.out 0).trans rfl, (blk_cell BK154.out 1).trans rfl⟩ (fun hHeld => ?_)
    generalize w211.drew = w212 at BK153 BK154 HB hHeld ⊢
    refine zt 0 (some 24) (zl 6 1) ?_
    refine zt 2 (some 26) (zl 6 5) ?_
    refine zo 1 (some 25) (zl 6 7) (fun K hK => ?_)
    refine zgo #[.agg #[.slice A0_0 l0_0.length c0_0, .int .i64 a0_1]] Try.func48 ?_
    with_reducible refine (laws_toTree.calls k _ _ l0_0 a0_1 t157 t160 _ (zk (Kd.C_below HR0_0.out HB.out)) HC0_0.out A19.out).mono ?_
    rintro e w213 ⟨v158, rfl, ho0, hb⟩
    refine ⟨_, rfl, ?_⟩
    have HO159 := zm (Kd.R_lower ho0 (below_size zB))
    replace BK153 := zm (blk_below (zb BK153) hb)
    replace BK154 := zm (blk_below (zb BK154) hb)
    replace HB := zm (below_step zB hb)
    (try clear hb)
    (try clear hb2)
    (try clear hk)
    (try clear hi)
    (try clear ho0)
    refine hK.out _ _ ⟨(blk_cell BK153.out 0).trans rfl, (blk_cell BK153.out 1).trans rfl, (blk_cell BK154.out 0).trans rfl, (blk_cell BK154.out 1).trans rfl⟩ (fun hHeld => ?_)
    clear hK K
    refine zn ?_
    refine zo 3 (some 27) (zl 6 15) (fun K hK => ?_)
    refine zgo #[.agg #[.slice A1_0 l1_0.length c1_0, .int .i64 a1_1]] Try.func48 ?_
    with_reducible refine (laws_toTree.calls k _ _ l1_0 a1_1 t161 t164 _ (zk (Kd.C_below HR1_0.out HB.out)) HC1_0.out A20.out).mono ?_
    rintro e w214 ⟨v162, rfl, ho0, hb⟩
    refine ⟨_, rfl, ?_⟩
    have HO163 := zm (Kd.R_lower (Kd.R_new' ho0 (Kd.R_lt (zr HO159))) (below_size zB))
    replace HO159 := zm (Kd.R_elder' (zr HO159) (Kd.R_base ho0) hb)
    replace BK153 := zm (blk_below (zb BK153) hb)
    replace BK154 := zm (blk_below (zb BK154) hb)
    replace HB := zm (below_step zB hb)
    (try clear hb)
    (try clear hb2)
    (try clear hk)
    (try clear hi)
    (try clear ho0)
    obtain ⟨Ao215, co215, eo215⟩ := Kd.R_slice HO159.out
    (first | subst eo215 | (injection eo215 with f1_ f2_ f3_; have f4_ := f1_.symm; have f5_ := f3_.symm; clear f1_ f2_ f3_; subst f4_; subst f5_))
    obtain ⟨Ao216, co216, eo216⟩ := Kd.R_slice HO163.out
    (first | subst eo216 | (injection eo216 with f1_ f2_ f3_; have f4_ := f1_.symm; have f5_ := f3_.symm; clear f1_ f2_ f3_; subst f4_; subst f5_))
    refine hK.out _ _ ⟨(blk_cell BK153.out 0).trans rfl, (blk_cell BK153.out 1).trans rfl, (blk_cell BK154.out 0).trans rfl, (blk_cell BK154.out 1).trans rfl⟩ (fun hHeld => ?_)
    clear hK K
    refine zn ?_
    refine zo 4 (some 28) (zl 6 31) (fun K hK => ?_)
    refine zgo #[.agg #[.slice Ao215 t157.length co215, .int .i64 t160], .agg #[.slice Ao216 t161.length co216, .int .i64 t164]] Try.func47 ?_
    with_reducible refine (spec_Differ.calls k _ _ t157 t160 _ _ t161 t164 t165 _ ?side1 ?side2 ?side3 ?side4 A21.out).mono ?_
    (case side1 => repeat (first | exact (Kd.R_reads' HO159.out).2.2 | (with_reducible refine Kd.C_alloc ?_ _) | (with_reducible refine Kd.C_drewN ?_ _) | (with_reducible refine Kd.C_drew ?_)))
    (case side2 => exact (Kd.R_reads' HO159.out).2.1)
    (case side3 => repeat (first | exact (Kd.R_reads' HO163.out).2.2 | (with_reducible refine Kd.C_alloc ?_ _) | (with_reducible refine Kd.C_drewN ?_ _) | (with_reducible refine Kd.C_drew ?_)))
    (case side4 => exact (Kd.R_reads' HO163.out).2.1)
    rintro e w217 ⟨v166, rfl, ho0, hb⟩
    refine ⟨_, rfl, ?_⟩
    have HO167 := zm (Kd.R_lower (Kd.R_new' (Kd.R_new' ho0 (Kd.R_lt (zr HO159))) (Kd.R_lt (zr HO163))) (below_size zB))
    replace HO159 := zm (Kd.R_elder' (zr HO159) (Kd.R_base ho0) hb)
    replace HO163 := zm (Kd.R_elder' (zr HO163) (Kd.R_base ho0) hb)
    replace BK153 := zm (blk_below (zb BK153) hb)
    replace BK154 := zm (blk_below (zb BK154) hb)
    replace HB := zm (below_step zB hb)
    (try clear hb)
    (try clear hb2)
    (try clear hk)
    (try clear hi)
    (try clear ho0)
    refine hK.out _ _ ⟨(blk_cell BK153.out 0).trans rfl, (blk_cell BK153.out 1).trans rfl, (blk_cell BK154.out 0).trans rfl, (blk_cell BK154.out 1).trans rfl⟩ (fun hHeld => ?_)
    clear hK K
    refine zn ?_
    refine zp 5 (some 6) (zl 6 63) ?_
    refine done_ (by kernel_rfl) ?_
    have hcz218_0 : w217.cell? ⟨gb153, 0, none⟩ = some (.slice A0_0 l0_0.length c0_0) := (blk_cell BK153.out 0).trans rfl
    have hcz218_1 : w217.cell? ⟨gb153, 1, none⟩ = some (.int .i64 a0_1) := (blk_cell BK153.out 1).trans rfl
    have hfz218_0 := blk_frozen BK153.out 0
    have hfz218_1 := blk_frozen BK153.out 1
    try go_wp2_with (first | ((with_reducible refine gate_callee (f := 48) rfl ?_); refine zg #[.agg #[.slice A0_0 l0_0.length c0_0, .int .i64 a0_1]] Try.func48 ?_; (with_reducible refine (laws_toTree.calls k _ _ l0_0 a0_1 t168 t171 _ (zk (Kd.C_below HR0_0.out HB.out)) HC0_0.out A22.out).mono ?_); rintro e w219 ⟨v169, rfl, ho0, hb⟩; refine ⟨_, rfl, ?_⟩; have HO170 := zm (Kd.R_lower (Kd.R_new' (Kd.R_new' (Kd.R_new' ho0 (Kd.R_lt (zr HO159))) (Kd.R_lt (zr HO163))) (Kd.R_lt (zr HO167))) (below_size zB)); replace HO159 := zm (Kd.R_elder' (zr HO159) (Kd.R_base ho0) hb); replace HO163 := zm (Kd.R_elder' (zr HO163) (Kd.R_base ho0) hb); replace HO167 := zm (Kd.R_elder' (zr HO167) (Kd.R_base ho0) hb); replace BK153 := zm (blk_below (zb BK153) hb); replace BK154 := zm (blk_below (zb BK154) hb); replace HB := zm (below_step zB hb); clear hb ho0) | ((with_reducible refine gate_dst (N := 7) rfl ?_); refine zbox 7 #[.slice none 0 0, .int .i64 0] 64 ?_; intro gb172 hg w220 hbox hb; replace HO159 := zm (Kd.R_below (zr HO159) hb); replace HO163 := zm (Kd.R_below (zr HO163) hb); replace HO167 := zm (Kd.R_below (zr HO167) hb); replace HO170 := zm (Kd.R_below (zr HO170) hb); have BK172 := zm (hbox); have GW172 := zge w hg zB; have GE172 := zge w hg zB; replace HB := zm (below_step zB hb); have NB153_172 := zlt hg (zb BK153); have NB172_153 := zgt hg (zb BK153); replace BK153 := zm (blk_below (zb BK153) hb); have NB154_172 := zlt hg (zb BK154); have NB172_154 := zgt hg (zb BK154); replace BK154 := zm (blk_below (zb BK154) hb); clear hb hbox hg; obtain ⟨Ao221, co221, eo221⟩ := Kd.R_slice HO170.out; subst eo221; have hnb222 := NB172_153.out; have hnc222 := NB153_172.out; have hnb223 := NB172_154.out; have hnc223 := NB154_172.out; have hcz224_0 : w220.cell? ⟨gb172, 0, none⟩ = some (.slice none 0 0) := (blk_cell BK172.out 0).trans rfl; have hcz224_1 : w220.cell? ⟨gb172, 1, none⟩ = some (.int .i64 0) := (blk_cell BK172.out 1).trans rfl; have hfz224_0 := blk_frozen BK172.out 0; have hfz224_1 := blk_frozen BK172.out 1; have hcz225_0 : w220.cell? ⟨gb154, 0, none⟩ = some (.slice A1_0 l1_0.length c1_0) := (blk_cell BK154.out 0).trans rfl; have hcz225_1 : w220.cell? ⟨gb154, 1, none⟩ = some (.int .i64 a1_1) := (blk_cell BK154.out 1).trans rfl; have hfz225_0 := blk_frozen BK154.out 0; have hfz225_1 := blk_frozen BK154.out 1) | ((with_reducible refine gate_callee (f := 48) rfl ?_); refine zg #[.agg #[.slice A1_0 l1_0.length c1_0, .int .i64 a1_1]] Try.func48 ?_; (with_reducible refine (laws_toTree.calls k _ _ l1_0 a1_1 t173 t176 _ ?side1 HC1_0.out A23.out).mono ?_); (case side1 => exact Kd.C_below HR1_0.out zB); rintro e w226 ⟨v174, rfl, ho0, hb⟩; refine ⟨_, rfl, ?_⟩; have HO175 := zm (Kd.R_lower (Kd.R_new' (Kd.R_new' (Kd.R_new' (Kd.R_new' ho0 (Kd.R_lt (zrs <| (Kd.R_mono (zfr (zfr (Kd.R_types HO159.out BK172.out (by decide)))) (fun _ h_ => h_.1))))) (Kd.R_lt (zrs <| (Kd.R_mono (zfr (zfr (Kd.R_types HO163.out BK172.out (by decide)))) (fun _ h_ => h_.1))))) (Kd.R_lt (zrs <| (Kd.R_mono (zfr (zfr (Kd.R_types HO167.out BK172.out (by decide)))) (fun _ h_ => h_.1))))) (Kd.R_lt (zrs <| (Kd.R_mono (zfr (zfr (Kd.R_types HO170.out BK172.out (by decide)))) (fun _ h_ => h_.1))))) (below_size zB)); replace HO159 := zm (Kd.R_elder' (zrs <| (Kd.R_mono (zfr (zfr (Kd.R_types HO159.out BK172.out (by decide)))) (fun _ h_ => h_.1))) (Kd.R_base ho0) hb); replace HO163 := zm (Kd.R_elder' (zrs <| (Kd.R_mono (zfr (zfr (Kd.R_types HO163.out BK172.out (by decide)))) (fun _ h_ => h_.1))) (Kd.R_base ho0) hb); replace HO167 := zm (Kd.R_elder' (zrs <| (Kd.R_mono (zfr (zfr (Kd.R_types HO167.out BK172.out (by decide)))) (fun _ h_ => h_.1))) (Kd.R_base ho0) hb); replace HO170 := zm (Kd.R_elder' (zrs <| (Kd.R_mono (zfr (zfr (Kd.R_types HO170.out BK172.out (by decide)))) (fun _ h_ => h_.1))) (Kd.R_base ho0) hb); replace BK153 := zm (blk_below (g := gb153) (o := .cells #[.slice A0_0 l0_0.length c0_0, .int .i64 a0_1] 61 (0, 0)) (zfar (zfar (zb BK153) NB153_172) NB153_172) hb); replace BK154 := zm (blk_below (g := gb154) (o := .cells #[.slice A1_0 l1_0.length c1_0, .int .i64 a1_1] 61 (0, 0)) (zfar (zfar (zb BK154) NB154_172) NB154_172) hb); replace BK172 := zm (blk_below (g := gb172) (o := .cells #[.slice Ao221 t168.length co221, .int .i64 t171] 64 (0, 0)) (zput (zput (zb BK172) 0) 1) hb); replace HB := zm (below_step zB hb); clear hb ho0) | ((with_reducible refine gate_dst (N := 8) rfl ?_); refine zbox 8 #[.slice none 0 0, .int .i64 0] 64 ?_; intro gb177 hg w227 hbox hb; replace HO159 := zm (Kd.R_below (zr HO159) hb); replace HO163 := zm (Kd.R_below (zr HO163) hb); replace HO167 := zm (Kd.R_below (zr HO167) hb); replace HO170 := zm (Kd.R_below (zr HO170) hb); replace HO175 := zm (Kd.R_below (zr HO175) hb); have BK177 := zm (hbox); have GW177 := zge w hg zB; have GE177 := zge w hg zB; replace HB := zm (below_step zB hb); have NB153_177 := zlt hg (zb BK153); have NB177_153 := zgt hg (zb BK153); replace BK153 := zm (blk_below (zb BK153) hb); have NB154_177 := zlt hg (zb BK154); have NB177_154 := zgt hg (zb BK154); replace BK154 := zm (blk_below (zb BK154) hb); have NB172_177 := zlt hg (zb BK172); have NB177_172 := zgt hg (zb BK172); replace BK172 := zm (blk_below (zb BK172) hb); clear hb hbox hg; obtain ⟨Ao228, co228, eo228⟩ := Kd.R_slice HO175.out; subst eo228; have hnb229 := NB177_153.out; have hnc229 := NB153_177.out; have hnb230 := NB177_154.out; have hnc230 := NB154_177.out; have hnb231 := NB177_172.out; have hnc231 := NB172_177.out; have hcz232_0 : w227.cell? ⟨gb177, 0, none⟩ = some (.slice none 0 0) := (blk_cell BK177.out 0).trans rfl; have hcz232_1 : w227.cell? ⟨gb177, 1, none⟩ = some (.int .i64 0) := (blk_cell BK177.out 1).trans rfl; have hfz232_0 := blk_frozen BK177.out 0; have hfz232_1 := blk_frozen BK177.out 1; have hcz233_0 : w227.cell? ⟨gb172, 0, none⟩ = some (.slice Ao221 t168.length co221) := (blk_cell BK172.out 0).trans rfl; have hcz233_1 : w227.cell? ⟨gb172, 1, none⟩ = some (.int .i64 t171) := (blk_cell BK172.out 1).trans rfl; have hfz233_0 := blk_frozen BK172.out 0; have hfz233_1 := blk_frozen BK172.out 1) | ((with_reducible refine gate_callee (f := 49) rfl ?_); refine zg #[.agg #[.slice Ao221 t168.length co221, .int .i64 t171], .agg #[.slice Ao228 t173.length co228, .int .i64 t176]] Try.func49 ?_; (with_reducible refine (impl_Differ.calls k _ _ t168 t171 _ _ t173 t176 t178 _ ?side1 ?side2 ?side3 ?side4 A24.out).mono ?_); (case side1 => refine (Kd.R_reads' (e := 3) (base := w.heap.size) (ok := fun k_ => ((((True ∧ some k_ ≠ (.slice Ao215 t157.length co215 : Value).ownBlock) ∧ some k_ ≠ (.slice Ao216 t161.length co216 : Value).ownBlock) ∧ some k_ ≠ (v166 : Value).ownBlock) ∧ some k_ ≠ (.slice Ao228 t173.length co228 : Value).ownBlock)) (n := t168.length) (c := co221) ?_).2.2; exact (zrs <| (Kd.R_mono (zfr (zfr (Kd.R_types HO170.out BK177.out (by decide)))) (fun _ h_ => h_.1)))); (case side2 => exact (Kd.R_reads' HO170.out).2.1); (case side3 => refine (Kd.R_reads' (e := 3) (base := w.heap.size) (ok := fun k_ => ((((True ∧ some k_ ≠ (.slice Ao215 t157.length co215 : Value).ownBlock) ∧ some k_ ≠ (.slice Ao216 t161.length co216 : Value).ownBlock) ∧ some k_ ≠ (v166 : Value).ownBlock) ∧ some k_ ≠ (.slice Ao221 t168.length co221 : Value).ownBlock)) (n := t173.length) (c := co228) ?_).2.2; exact (zrs <| (Kd.R_mono (zfr (zfr (Kd.R_types HO175.out BK177.out (by decide)))) (fun _ h_ => h_.1)))); (case side4 => exact (Kd.R_reads' HO175.out).2.1); rintro e w234 ⟨v179, rfl, ho0, hb⟩; refine ⟨_, rfl, ?_⟩; have HO180 := zm (Kd.R_lower (Kd.R_new' (Kd.R_new' (Kd.R_new' (Kd.R_new' (Kd.R_new' ho0 (Kd.R_lt (zrs <| (Kd.R_mono (zfr (zfr (Kd.R_types HO159.out BK177.out (by decide)))) (fun _ h_ => h_.1))))) (Kd.R_lt (zrs <| (Kd.R_mono (zfr (zfr (Kd.R_types HO163.out BK177.out (by decide)))) (fun _ h_ => h_.1))))) (Kd.R_lt (zrs <| (Kd.R_mono (zfr (zfr (Kd.R_types HO167.out BK177.out (by decide)))) (fun _ h_ => h_.1))))) (Kd.R_lt (zrs <| (Kd.R_mono (zfr (zfr (Kd.R_types HO170.out BK177.out (by decide)))) (fun _ h_ => h_.1))))) (Kd.R_lt (zrs <| (Kd.R_mono (zfr (zfr (Kd.R_types HO175.out BK177.out (by decide)))) (fun _ h_ => h_.1))))) (below_size zB)); replace HO159 := zm (Kd.R_elder' (zrs <| (Kd.R_mono (zfr (zfr (Kd.R_types HO159.out BK177.out (by decide)))) (fun _ h_ => h_.1))) (Kd.R_base ho0) hb); replace HO163 := zm (Kd.R_elder' (zrs <| (Kd.R_mono (zfr (zfr (Kd.R_types HO163.out BK177.out (by decide)))) (fun _ h_ => h_.1))) (Kd.R_base ho0) hb); replace HO167 := zm (Kd.R_elder' (zrs <| (Kd.R_mono (zfr (zfr (Kd.R_types HO167.out BK177.out (by decide)))) (fun _ h_ => h_.1))) (Kd.R_base ho0) hb); replace HO170 := zm (Kd.R_elder' (zrs <| (Kd.R_mono (zfr (zfr (Kd.R_types HO170.out BK177.out (by decide)))) (fun _ h_ => h_.1))) (Kd.R_base ho0) hb); replace HO175 := zm (Kd.R_elder' (zrs <| (Kd.R_mono (zfr (zfr (Kd.R_types HO175.out BK177.out (by decide)))) (fun _ h_ => h_.1))) (Kd.R_base ho0) hb); replace BK153 := zm (blk_below (g := gb153) (o := .cells #[.slice A0_0 l0_0.length c0_0, .int .i64 a0_1] 61 (0, 0)) (zfar (zfar (zb BK153) NB153_177) NB153_177) hb); replace BK154 := zm (blk_below (g := gb154) (o := .cells #[.slice A1_0 l1_0.length c1_0, .int .i64 a1_1] 61 (0, 0)) (zfar (zfar (zb BK154) NB154_177) NB154_177) hb); replace BK172 := zm (blk_below (g := gb172) (o := .cells #[.slice Ao221 t168.length co221, .int .i64 t171] 64 (0, 0)) (zfar (zfar (zb BK172) NB172_177) NB172_177) hb); replace BK177 := zm (blk_below (g := gb177) (o := .cells #[.slice Ao228 t173.length co228, .int .i64 t176] 64 (0, 0)) (zput (zput (zb BK177) 0) 1) hb); replace HB := zm (below_step zB hb); clear hb ho0; obtain ⟨Ao235, co235, eo235⟩ := Kd.R_slice HO180.out; subst eo235; obtain ⟨Ao236, co236, eo236⟩ := Kd.R_slice HO167.out; subst eo236) | ((with_reducible refine gate_callee (f := 50) rfl ?_); refine zg #[.slice Ao235 t178.length co235, .slice Ao236 t165.length co236] Try.func50 ?_; (with_reducible refine (laws_eqIntS.calls k _ _ t178 _ _ t165 false _ ?side1 ?side2 ?side3 ?side4 A25.out).mono ?_); (case side1 => repeat (first | exact (Kd.R_reads' HO180.out).2.2 | (with_reducible refine Kd.C_alloc ?_ _) | (with_reducible refine Kd.C_drewN ?_ _) | (with_reducible refine Kd.C_drew ?_))); (case side2 => exact (Kd.R_reads' HO180.out).2.1); (case side3 => repeat (first | exact (Kd.R_reads' HO167.out).2.2 | (with_reducible refine Kd.C_alloc ?_ _) | (with_reducible refine Kd.C_drewN ?_ _) | (with_reducible refine Kd.C_drew ?_))); (case side4 => exact (Kd.R_reads' HO167.out).2.1); rintro e w' ⟨rfl, ⟨nd, rfl⟩⟩; refine ⟨_, rfl, ?_⟩))
    go_ret
    exact ⟨zE, zB⟩

def laws_FnExactDiffer.Pure : Prop := ∀ (l0_0 : List Int) (a0_1 : Int) (l1_0 : List Int) (a1_1 : Int), l0_0.length ≤ maxLen → l0_0.length * 8 ≤ 140737488351232 → (∀ x ∈ l0_0, (Lit.int .i64 x).wf = true) → (Lit.int .i64 a0_1).wf = true → l1_0.length ≤ maxLen → l1_0.length * 8 ≤ 140737488351232 → (∀ x ∈ l1_0, (Lit.int .i64 x).wf = true) → (Lit.int .i64 a1_1).wf = true → ∃ k, laws_FnExactDiffer.f k l0_0 a0_1 l1_0 a1_1 = some true

end Go.Proofs.Ytbchblgnpkddpaa.PFnExactDiffer
