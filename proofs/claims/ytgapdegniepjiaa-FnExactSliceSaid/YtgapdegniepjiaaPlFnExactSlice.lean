-- by a program of this session, for this seat
import Derived.Test.YtgapdegniepjiaaZ
import Derived.Test.YtgapdegniepjiaaP0
import Derived.Test.YtgapdegniepjiaaPaa
import Derived.Test.YtgapdegniepjiaaPac
import Derived.Test.YtgapdegniepjiaaPad
import Derived.Test.YtgapdegniepjiaaPaj
import Derived.Test.YtgapdegniepjiaaPao
import Derived.Test.YtgapdegniepjiaaPap
namespace Go.Proofs.Ytgapdegniepjiaa.P
open Go.RowKit Go.Proofs.YtgapdegniepjiaaW.PrintWords Go.Proofs.YtgapdegniepjiaaW.PrintLast Go.Proofs.YtgapdegniepjiaaW.PrintMore Go.Proofs.Ytgapdegniepjiaa.Z
attribute [local go_sem] max2_int min2_int max_two min_two max_three min_three max_four min_four   -- for this text's walks alone
set_option linter.unusedVariables false
set_option linter.unusedSimpArgs false

/-! ### laws_FnExactSlice: function 10 -/
def laws_FnExactSlice.j0 : Nat → List Int → Bool → List (S94) → List (S98) → List (S68) → List (S72) → List (S68) → List (S72) → Option (Bool)
 | 0, _, _, _, _, _, _, _, _ => none
 | k + 1, x1, x61, x700000, x700001, x717000, x717001, x734000, x734001 => if x61 = true then (some false) else ((laws_markState.f k x734000 x734001 1).bind fun bt752 => ((laws_heldState.f k bt752.2.1 bt752.2.2 1).bind fun t755 => (if t755 < 0 then (some false) else (if t755 = bt752.1 then ((laws_toState.f k x700000 x700001).bind fun bt756 => ((laws_toIntS.f k x1).bind fun t762 => ((impl_Slice.f k bt756.1 bt756.2 t762).bind fun bt765 => ((laws_eqState.f k bt765.1 bt765.2 x717000 x717001).bind fun t772 => (if t772 = true then ((laws_heldState.f k bt752.2.1 bt752.2.2 1).bind fun t773 => (if t773 < 0 then (some false) else (if t773 = bt752.1 then (some true) else (some false)))) else (some false)))))) else (some false)))))
def laws_FnExactSlice.f (k : Nat) (l0_0 : List (S94)) (l0_1 : List (S98)) (l1 : List Int) : Option (Bool) := if (l1.length : Int) > 1048576 then (some true) else ((laws_szState.f k l0_0 l0_1 1048576).bind fun t700 => (if t700 < 0 then (some true) else ((laws_toState.f k l0_0 l0_1).bind fun bt701 => ((laws_toIntS.f k l1).bind fun t707 => ((spec_Slice.f k bt701.1 bt701.2 t707).bind fun bt710 => ((laws_toState.f k l0_0 l0_1).bind fun bt717 => ((laws_toIntS.f k l1).bind fun t724 => ((impl_Slice.f k bt717.1 bt717.2 t724).bind fun bt727 => ((laws_eqState.f k bt727.1 bt727.2 bt710.1 bt710.2).bind fun t734 => (if t734 = true then ((laws_toState.f k l0_0 l0_1).bind fun bt735 => ((laws_eqState.f k bt717.1 bt717.2 bt735.1 bt735.2).bind fun t741 => (if t741 = true then ((laws_toIntS.f k l1).bind fun t742 => ((laws_eqIntS.f k t724 t742).bind fun t745 => (if t745 = true then ((laws_markState.f k bt717.1 bt717.2 1).bind fun bt746 => ((laws_markIntS.f k t724 bt746.1).bind fun bt749 => (if bt749.1 < 0 then (laws_FnExactSlice.j0 k l1 true l0_0 l0_1 bt710.1 bt710.2 bt727.1 bt727.2) else ((laws_eqState.f k bt727.1 bt727.2 bt710.1 bt710.2).bind fun t751 => (laws_FnExactSlice.j0 k l1 (!t751) l0_0 l0_1 bt710.1 bt710.2 bt727.1 bt727.2))))) else (some false)))) else (some false)))) else (some false)))))))))))
theorem laws_FnExactSlice.mono_l : ∀ k, (∀ y0 y1 y2 y3 y4 y5 y6 y7, LeO (laws_FnExactSlice.j0 k y0 y1 y2 y3 y4 y5 y6 y7) (laws_FnExactSlice.j0 (k + 1) y0 y1 y2 y3 y4 y5 y6 y7))
 | 0 => fun _ _ _ _ _ _ _ _ r h => by simp [laws_FnExactSlice.j0] at h
 | k + 1 => by
  have ih0 := laws_FnExactSlice.mono_l k
  ·intro y0 y1 y2 y3 y4 y5 y6 y7
   unfold laws_FnExactSlice.j0
   repeat' first
   | (with_reducible exact ih0 _ _ _ _ _ _ _ _)
   | (with_reducible exact impl_Slice.mono _ _ _ _)
   | (with_reducible exact laws_eqIntS.mono _ _ _)
   | (with_reducible exact laws_eqState.mono _ _ _ _ _)
   | (with_reducible exact laws_heldState.mono _ _ _ _)
   | (with_reducible exact laws_markIntS.mono _ _ _)
   | (with_reducible exact laws_markState.mono _ _ _ _)
   | (with_reducible exact laws_szState.mono _ _ _ _)
   | (with_reducible exact laws_toIntS.mono _ _)
   | (with_reducible exact laws_toState.mono _ _ _)
   | (with_reducible exact spec_Slice.mono _ _ _ _)
   | (with_reducible exact LeO.refl _)
   | (with_reducible exact LeO.none _)
   | (with_reducible refine LeO.ite ?_ ?_)
   | (with_reducible refine LeO.bind ?_ (fun _ => ?_))
   | exact ih0 _ _ _ _ _ _ _ _
   | exact impl_Slice.mono _ _ _ _
   | exact laws_eqIntS.mono _ _ _
   | exact laws_eqState.mono _ _ _ _ _
   | exact laws_heldState.mono _ _ _ _
   | exact laws_markIntS.mono _ _ _
   | exact laws_markState.mono _ _ _ _
   | exact laws_szState.mono _ _ _ _
   | exact laws_toIntS.mono _ _
   | exact laws_toState.mono _ _ _
   | exact spec_Slice.mono _ _ _ _
   | exact LeO.none _
   | refine LeO.ite ?_ ?_
   | refine LeO.bind ?_ (fun _ => ?_)
theorem laws_FnExactSlice.mono : ∀ a0 a1 a2 k, LeO (laws_FnExactSlice.f k a0 a1 a2) (laws_FnExactSlice.f (k + 1) a0 a1 a2) := by
 intro a0 a1 a2 k
 have ih0 := laws_FnExactSlice.mono_l k
 unfold laws_FnExactSlice.f
 repeat' first
   | (with_reducible exact ih0 _ _ _ _ _ _ _ _)
   | (with_reducible exact impl_Slice.mono _ _ _ _)
   | (with_reducible exact laws_eqIntS.mono _ _ _)
   | (with_reducible exact laws_eqState.mono _ _ _ _ _)
   | (with_reducible exact laws_heldState.mono _ _ _ _)
   | (with_reducible exact laws_markIntS.mono _ _ _)
   | (with_reducible exact laws_markState.mono _ _ _ _)
   | (with_reducible exact laws_szState.mono _ _ _ _)
   | (with_reducible exact laws_toIntS.mono _ _)
   | (with_reducible exact laws_toState.mono _ _ _)
   | (with_reducible exact spec_Slice.mono _ _ _ _)
   | (with_reducible exact LeO.refl _)
   | (with_reducible exact LeO.none _)
   | (with_reducible refine LeO.ite ?_ ?_)
   | (with_reducible refine LeO.bind ?_ (fun _ => ?_))
   | exact ih0 _ _ _ _ _ _ _ _
   | exact impl_Slice.mono _ _ _ _
   | exact laws_eqIntS.mono _ _ _
   | exact laws_eqState.mono _ _ _ _ _
   | exact laws_heldState.mono _ _ _ _
   | exact laws_markIntS.mono _ _ _
   | exact laws_markState.mono _ _ _ _
   | exact laws_szState.mono _ _ _ _
   | exact laws_toIntS.mono _ _
   | exact laws_toState.mono _ _ _
   | exact spec_Slice.mono _ _ _ _
   | exact LeO.none _
   | refine LeO.ite ?_ ?_
   | refine LeO.bind ?_ (fun _ => ?_)
set_option maxHeartbeats 8000000 in
set_option maxRecDepth 100000 in
theorem laws_FnExactSlice.calls (k : Nat) (A0_0 : Option Addr) (c0_0 : Nat) (l0_0 : List (S94)) (A0_1 : Option Addr) (c0_1 : Nat) (l0_1 : List (S98)) (A1 : Option Addr) (c1 : Nat) (l1 : List Int) (r : Bool) (w : World) (hr0_0 : Kd.C k94 w A0_0 l0_0.length l0_0) (hc0_0 : l0_0.length ≤ c0_0) (hr0_1 : Kd.C k98 w A0_1 l0_1.length l0_1) (hc0_1 : l0_1.length ≤ c0_1) (hr1 : Kd.C (Kd.int .i64) w A1 l1.length l1) (hc1 : l1.length ≤ c1) (h : laws_FnExactSlice.f k l0_0 l0_1 l1 = some r) (hr_ : r = true) :
  Calls Try.prog 10 #[.agg #[.slice A0_0 l0_0.length c0_0, .slice A0_1 l0_1.length c0_1], .slice A1 l1.length c1] w fun e w' => e = .returned (.bool r) ∧ Below w.heap.size w w' := by
 have HRT := zm hr_
 clear hr_
 have hu25 := Try.underlying25
 have hu32 := Try.underlying32
 have HR0_0 := zm hr0_0
 have HC0_0 := zm hc0_0
 clear hr0_0 hc0_0
 have HR0_1 := zm hr0_1
 have HC0_1 := zm hc0_1
 clear hr0_1 hc0_1
 have HR1 := zm hr1
 have HC1 := zm hc1
 clear hr1 hc1
 have HB := zm (Below.refl w.heap.size w)
 have H : (if (l1.length : Int) > 1048576 then (some true) else ((laws_szState.f k l0_0 l0_1 1048576).bind fun t700 => (if t700 < 0 then (some true) else ((laws_toState.f k l0_0 l0_1).bind fun bt701 => ((laws_toIntS.f k l1).bind fun t707 => ((spec_Slice.f k bt701.1 bt701.2 t707).bind fun bt710 => ((laws_toState.f k l0_0 l0_1).bind fun bt717 => ((laws_toIntS.f k l1).bind fun t724 => ((impl_Slice.f k bt717.1 bt717.2 t724).bind fun bt727 => ((laws_eqState.f k bt727.1 bt727.2 bt710.1 bt710.2).bind fun t734 => (if t734 = true then ((laws_toState.f k l0_0 l0_1).bind fun bt735 => ((laws_eqState.f k bt717.1 bt717.2 bt735.1 bt735.2).bind fun t741 => (if t741 = true then ((laws_toIntS.f k l1).bind fun t742 => ((laws_eqIntS.f k t724 t742).bind fun t745 => (if t745 = true then ((laws_markState.f k bt717.1 bt717.2 1).bind fun bt746 => ((laws_markIntS.f k t724 bt746.1).bind fun bt749 => (if bt749.1 < 0 then (laws_FnExactSlice.j0 k l1 true l0_0 l0_1 bt710.1 bt710.2 bt727.1 bt727.2) else ((laws_eqState.f k bt727.1 bt727.2 bt710.1 bt710.2).bind fun t751 => (laws_FnExactSlice.j0 k l1 (!t751) l0_0 l0_1 bt710.1 bt710.2 bt727.1 bt727.2))))) else (some false)))) else (some false)))) else (some false)))))))))))) = some r := h
 clear h
 by_cases c3 : (l1.length : Int) > 1048576
 ·rw [if_pos c3] at H
  have c3b0 : decide (1048576 < (l1.length : Int)) = true := decide_eq_true c3
  have c3b1 : decide (1048576 < l1.length) = true := decide_eq_true (by omega)
  clear c3
  obtain rfl := Option.some.inj H
  go_enter Try.func10, Try.ntmps10
  go_wp2_with (first | ((with_reducible refine gate_dst (N := 2) rfl ?_); refine zbox 2 #[.slice A0_0 l0_0.length c0_0, .slice A0_1 l0_1.length c0_1] 25 ?_; intro gb699 hg w4 hbox hb; have BK699 := zm (hbox); have GW699 := zge w hg zB; have GE699 := zge w hg zB; replace HB := zm (below_step zB hb); clear hb hbox hg))
  go_ret
  exact ⟨zE, zB⟩
 ·rw [if_neg c3] at H
  have c3b0 : decide (1048576 < (l1.length : Int)) = false := decide_eq_false c3
  have c3b1 : decide (1048576 < l1.length) = false := decide_eq_false (by omega)
  clear c3
  replace H := Option.bind_eq_some_iff.mp H
  obtain ⟨t700, A50, H⟩ := H
  replace H : (if t700 < 0 then (some true) else ((laws_toState.f k l0_0 l0_1).bind fun bt701 => ((laws_toIntS.f k l1).bind fun t707 => ((spec_Slice.f k bt701.1 bt701.2 t707).bind fun bt710 => ((laws_toState.f k l0_0 l0_1).bind fun bt717 => ((laws_toIntS.f k l1).bind fun t724 => ((impl_Slice.f k bt717.1 bt717.2 t724).bind fun bt727 => ((laws_eqState.f k bt727.1 bt727.2 bt710.1 bt710.2).bind fun t734 => (if t734 = true then ((laws_toState.f k l0_0 l0_1).bind fun bt735 => ((laws_eqState.f k bt717.1 bt717.2 bt735.1 bt735.2).bind fun t741 => (if t741 = true then ((laws_toIntS.f k l1).bind fun t742 => ((laws_eqIntS.f k t724 t742).bind fun t745 => (if t745 = true then ((laws_markState.f k bt717.1 bt717.2 1).bind fun bt746 => ((laws_markIntS.f k t724 bt746.1).bind fun bt749 => (if bt749.1 < 0 then (laws_FnExactSlice.j0 k l1 true l0_0 l0_1 bt710.1 bt710.2 bt727.1 bt727.2) else ((laws_eqState.f k bt727.1 bt727.2 bt710.1 bt710.2).bind fun t751 => (laws_FnExactSlice.j0 k l1 (!t751) l0_0 l0_1 bt710.1 bt710.2 bt727.1 bt727.2))))) else (some false)))) else (some false)))) else (some false)))))))))) = some r := H
  have A5 := zm A50
  clear A50
  by_cases c6 : t700 < 0
  ·rw [if_pos c6] at H
   have c6b0 : decide (t700 < 0) = true := decide_eq_true c6
   clear c6
   obtain rfl := Option.some.inj H
   go_enter Try.func10, Try.ntmps10
   go_wp2_with (first | ((with_reducible refine gate_dst (N := 2) rfl ?_); refine zbox 2 #[.slice A0_0 l0_0.length c0_0, .slice A0_1 l0_1.length c0_1] 25 ?_; intro gb699 hg w7 hbox hb; have BK699 := zm (hbox); have GW699 := zge w hg zB; have GE699 := zge w hg zB; replace HB := zm (below_step zB hb); clear hb hbox hg; have hcz8_0 : w7.cell? ⟨gb699, 0, none⟩ = some (.slice A0_0 l0_0.length c0_0) := (blk_cell BK699.out 0).trans rfl; have hcz8_1 : w7.cell? ⟨gb699, 1, none⟩ = some (.slice A0_1 l0_1.length c0_1) := (blk_cell BK699.out 1).trans rfl; have hfz8_0 := blk_frozen BK699.out 0; have hfz8_1 := blk_frozen BK699.out 1) | ((with_reducible refine gate_callee (f := 13) rfl ?_); refine zg (some 19) #[.agg #[.slice A0_0 l0_0.length c0_0, .slice A0_1 l0_1.length c0_1], .int .i64 1048576] Try.func13 ?_; (with_reducible refine (laws_szState.calls k _ _ l0_0 _ _ l0_1 1048576 t700 _ (zk (Kd.C_below HR0_0.out HB.out)) HC0_0.out (zk (Kd.C_below HR0_1.out HB.out)) HC0_1.out A5.out).mono ?_); rintro e w9 ⟨rfl, hb⟩; refine ⟨_, rfl, ?_⟩; replace BK699 := zm (blk_below (zb BK699) hb); replace HB := zm (below_step zB hb); clear hb))
   go_ret
   exact ⟨zE, zB⟩
  ·rw [if_neg c6] at H
   have c6b0 : decide (t700 < 0) = false := decide_eq_false c6
   clear c6
   replace H := Option.bind_eq_some_iff.mp H
   obtain ⟨⟨t701, t704⟩, A100, H⟩ := H
   replace H : ((laws_toIntS.f k l1).bind fun t707 => ((spec_Slice.f k t701 t704 t707).bind fun bt710 => ((laws_toState.f k l0_0 l0_1).bind fun bt717 => ((laws_toIntS.f k l1).bind fun t724 => ((impl_Slice.f k bt717.1 bt717.2 t724).bind fun bt727 => ((laws_eqState.f k bt727.1 bt727.2 bt710.1 bt710.2).bind fun t734 => (if t734 = true then ((laws_toState.f k l0_0 l0_1).bind fun bt735 => ((laws_eqState.f k bt717.1 bt717.2 bt735.1 bt735.2).bind fun t741 => (if t741 = true then ((laws_toIntS.f k l1).bind fun t742 => ((laws_eqIntS.f k t724 t742).bind fun t745 => (if t745 = true then ((laws_markState.f k bt717.1 bt717.2 1).bind fun bt746 => ((laws_markIntS.f k t724 bt746.1).bind fun bt749 => (if bt749.1 < 0 then (laws_FnExactSlice.j0 k l1 true l0_0 l0_1 bt710.1 bt710.2 bt727.1 bt727.2) else ((laws_eqState.f k bt727.1 bt727.2 bt710.1 bt710.2).bind fun t751 => (laws_FnExactSlice.j0 k l1 (!t751) l0_0 l0_1 bt710.1 bt710.2 bt727.1 bt727.2))))) else (some false)))) else (some false)))) else (some false)))))))) = some r := H
   have A10 := zm A100
   clear A100
   replace H := Option.bind_eq_some_iff.mp H
   obtain ⟨t707, A110, H⟩ := H
   replace H : ((spec_Slice.f k t701 t704 t707).bind fun bt710 => ((laws_toState.f k l0_0 l0_1).bind fun bt717 => ((laws_toIntS.f k l1).bind fun t724 => ((impl_Slice.f k bt717.1 bt717.2 t724).bind fun bt727 => ((laws_eqState.f k bt727.1 bt727.2 bt710.1 bt710.2).bind fun t734 => (if t734 = true then ((laws_toState.f k l0_0 l0_1).bind fun bt735 => ((laws_eqState.f k bt717.1 bt717.2 bt735.1 bt735.2).bind fun t741 => (if t741 = true then ((laws_toIntS.f k l1).bind fun t742 => ((laws_eqIntS.f k t724 t742).bind fun t745 => (if t745 = true then ((laws_markState.f k bt717.1 bt717.2 1).bind fun bt746 => ((laws_markIntS.f k t724 bt746.1).bind fun bt749 => (if bt749.1 < 0 then (laws_FnExactSlice.j0 k l1 true l0_0 l0_1 bt710.1 bt710.2 bt727.1 bt727.2) else ((laws_eqState.f k bt727.1 bt727.2 bt710.1 bt710.2).bind fun t751 => (laws_FnExactSlice.j0 k l1 (!t751) l0_0 l0_1 bt710.1 bt710.2 bt727.1 bt727.2))))) else (some false)))) else (some false)))) else (some false))))))) = some r := H
   have A11 := zm A110
   clear A110
   replace H := Option.bind_eq_some_iff.mp H
   obtain ⟨⟨t710, t713⟩, A120, H⟩ := H
   replace H : ((laws_toState.f k l0_0 l0_1).bind fun bt717 => ((laws_toIntS.f k l1).bind fun t724 => ((impl_Slice.f k bt717.1 bt717.2 t724).bind fun bt727 => ((laws_eqState.f k bt727.1 bt727.2 t710 t713).bind fun t734 => (if t734 = true then ((laws_toState.f k l0_0 l0_1).bind fun bt735 => ((laws_eqState.f k bt717.1 bt717.2 bt735.1 bt735.2).bind fun t741 => (if t741 = true then ((laws_toIntS.f k l1).bind fun t742 => ((laws_eqIntS.f k t724 t742).bind fun t745 => (if t745 = true then ((laws_markState.f k bt717.1 bt717.2 1).bind fun bt746 => ((laws_markIntS.f k t724 bt746.1).bind fun bt749 => (if bt749.1 < 0 then (laws_FnExactSlice.j0 k l1 true l0_0 l0_1 t710 t713 bt727.1 bt727.2) else ((laws_eqState.f k bt727.1 bt727.2 t710 t713).bind fun t751 => (laws_FnExactSlice.j0 k l1 (!t751) l0_0 l0_1 t710 t713 bt727.1 bt727.2))))) else (some false)))) else (some false)))) else (some false)))))) = some r := H
   have A12 := zm A120
   clear A120
   replace H := Option.bind_eq_some_iff.mp H
   obtain ⟨⟨t717, t720⟩, A130, H⟩ := H
   replace H : ((laws_toIntS.f k l1).bind fun t724 => ((impl_Slice.f k t717 t720 t724).bind fun bt727 => ((laws_eqState.f k bt727.1 bt727.2 t710 t713).bind fun t734 => (if t734 = true then ((laws_toState.f k l0_0 l0_1).bind fun bt735 => ((laws_eqState.f k t717 t720 bt735.1 bt735.2).bind fun t741 => (if t741 = true then ((laws_toIntS.f k l1).bind fun t742 => ((laws_eqIntS.f k t724 t742).bind fun t745 => (if t745 = true then ((laws_markState.f k t717 t720 1).bind fun bt746 => ((laws_markIntS.f k t724 bt746.1).bind fun bt749 => (if bt749.1 < 0 then (laws_FnExactSlice.j0 k l1 true l0_0 l0_1 t710 t713 bt727.1 bt727.2) else ((laws_eqState.f k bt727.1 bt727.2 t710 t713).bind fun t751 => (laws_FnExactSlice.j0 k l1 (!t751) l0_0 l0_1 t710 t713 bt727.1 bt727.2))))) else (some false)))) else (some false)))) else (some false))))) = some r := H
   have A13 := zm A130
   clear A130
   replace H := Option.bind_eq_some_iff.mp H
   obtain ⟨t724, A140, H⟩ := H
   replace H : ((impl_Slice.f k t717 t720 t724).bind fun bt727 => ((laws_eqState.f k bt727.1 bt727.2 t710 t713).bind fun t734 => (if t734 = true then ((laws_toState.f k l0_0 l0_1).bind fun bt735 => ((laws_eqState.f k t717 t720 bt735.1 bt735.2).bind fun t741 => (if t741 = true then ((laws_toIntS.f k l1).bind fun t742 => ((laws_eqIntS.f k t724 t742).bind fun t745 => (if t745 = true then ((laws_markState.f k t717 t720 1).bind fun bt746 => ((laws_markIntS.f k t724 bt746.1).bind fun bt749 => (if bt749.1 < 0 then (laws_FnExactSlice.j0 k l1 true l0_0 l0_1 t710 t713 bt727.1 bt727.2) else ((laws_eqState.f k bt727.1 bt727.2 t710 t713).bind fun t751 => (laws_FnExactSlice.j0 k l1 (!t751) l0_0 l0_1 t710 t713 bt727.1 bt727.2))))) else (some false)))) else (some false)))) else (some false)))) = some r := H
   have A14 := zm A140
   clear A140
   replace H := Option.bind_eq_some_iff.mp H
   obtain ⟨⟨t727, t730⟩, A150, H⟩ := H
   replace H : ((laws_eqState.f k t727 t730 t710 t713).bind fun t734 => (if t734 = true then ((laws_toState.f k l0_0 l0_1).bind fun bt735 => ((laws_eqState.f k t717 t720 bt735.1 bt735.2).bind fun t741 => (if t741 = true then ((laws_toIntS.f k l1).bind fun t742 => ((laws_eqIntS.f k t724 t742).bind fun t745 => (if t745 = true then ((laws_markState.f k t717 t720 1).bind fun bt746 => ((laws_markIntS.f k t724 bt746.1).bind fun bt749 => (if bt749.1 < 0 then (laws_FnExactSlice.j0 k l1 true l0_0 l0_1 t710 t713 t727 t730) else ((laws_eqState.f k t727 t730 t710 t713).bind fun t751 => (laws_FnExactSlice.j0 k l1 (!t751) l0_0 l0_1 t710 t713 t727 t730))))) else (some false)))) else (some false)))) else (some false))) = some r := H
   have A15 := zm A150
   clear A150
   replace H := Option.bind_eq_some_iff.mp H
   obtain ⟨t734, A160, H⟩ := H
   replace H : (if t734 = true then ((laws_toState.f k l0_0 l0_1).bind fun bt735 => ((laws_eqState.f k t717 t720 bt735.1 bt735.2).bind fun t741 => (if t741 = true then ((laws_toIntS.f k l1).bind fun t742 => ((laws_eqIntS.f k t724 t742).bind fun t745 => (if t745 = true then ((laws_markState.f k t717 t720 1).bind fun bt746 => ((laws_markIntS.f k t724 bt746.1).bind fun bt749 => (if bt749.1 < 0 then (laws_FnExactSlice.j0 k l1 true l0_0 l0_1 t710 t713 t727 t730) else ((laws_eqState.f k t727 t730 t710 t713).bind fun t751 => (laws_FnExactSlice.j0 k l1 (!t751) l0_0 l0_1 t710 t713 t727 t730))))) else (some false)))) else (some false)))) else (some false)) = some r := H
   have A16 := zm A160
   clear A160
   by_cases c17 : t734 = true
   ·subst c17
    have H1 : ((laws_toState.f k l0_0 l0_1).bind fun bt735 => ((laws_eqState.f k t717 t720 bt735.1 bt735.2).bind fun t741 => (if t741 = true then ((laws_toIntS.f k l1).bind fun t742 => ((laws_eqIntS.f k t724 t742).bind fun t745 => (if t745 = true then ((laws_markState.f k t717 t720 1).bind fun bt746 => ((laws_markIntS.f k t724 bt746.1).bind fun bt749 => (if bt749.1 < 0 then (laws_FnExactSlice.j0 k l1 true l0_0 l0_1 t710 t713 t727 t730) else ((laws_eqState.f k t727 t730 t710 t713).bind fun t751 => (laws_FnExactSlice.j0 k l1 (!t751) l0_0 l0_1 t710 t713 t727 t730))))) else (some false)))) else (some false)))) = some r := by rw [if_pos rfl] at H; exact H
    clear H
    have H := H1
    clear H1
    replace H := Option.bind_eq_some_iff.mp H
    obtain ⟨⟨t735, t738⟩, A180, H⟩ := H
    replace H : ((laws_eqState.f k t717 t720 t735 t738).bind fun t741 => (if t741 = true then ((laws_toIntS.f k l1).bind fun t742 => ((laws_eqIntS.f k t724 t742).bind fun t745 => (if t745 = true then ((laws_markState.f k t717 t720 1).bind fun bt746 => ((laws_markIntS.f k t724 bt746.1).bind fun bt749 => (if bt749.1 < 0 then (laws_FnExactSlice.j0 k l1 true l0_0 l0_1 t710 t713 t727 t730) else ((laws_eqState.f k t727 t730 t710 t713).bind fun t751 => (laws_FnExactSlice.j0 k l1 (!t751) l0_0 l0_1 t710 t713 t727 t730))))) else (some false)))) else (some false))) = some r := H
    have A18 := zm A180
    clear A180
    replace H := Option.bind_eq_some_iff.mp H
    obtain ⟨t741, A190, H⟩ := H
    replace H : (if t741 = true then ((laws_toIntS.f k l1).bind fun t742 => ((laws_eqIntS.f k t724 t742).bind fun t745 => (if t745 = true then ((laws_markState.f k t717 t720 1).bind fun bt746 => ((laws_markIntS.f k t724 bt746.1).bind fun bt749 => (if bt749.1 < 0 then (laws_FnExactSlice.j0 k l1 true l0_0 l0_1 t710 t713 t727 t730) else ((laws_eqState.f k t727 t730 t710 t713).bind fun t751 => (laws_FnExactSlice.j0 k l1 (!t751) l0_0 l0_1 t710 t713 t727 t730))))) else (some false)))) else (some false)) = some r := H
    have A19 := zm A190
    clear A190
    by_cases c20 : t741 = true
    ·subst c20
     have H1 : ((laws_toIntS.f k l1).bind fun t742 => ((laws_eqIntS.f k t724 t742).bind fun t745 => (if t745 = true then ((laws_markState.f k t717 t720 1).bind fun bt746 => ((laws_markIntS.f k t724 bt746.1).bind fun bt749 => (if bt749.1 < 0 then (laws_FnExactSlice.j0 k l1 true l0_0 l0_1 t710 t713 t727 t730) else ((laws_eqState.f k t727 t730 t710 t713).bind fun t751 => (laws_FnExactSlice.j0 k l1 (!t751) l0_0 l0_1 t710 t713 t727 t730))))) else (some false)))) = some r := by rw [if_pos rfl] at H; exact H
     clear H
     have H := H1
     clear H1
     replace H := Option.bind_eq_some_iff.mp H
     obtain ⟨t742, A210, H⟩ := H
     replace H : ((laws_eqIntS.f k t724 t742).bind fun t745 => (if t745 = true then ((laws_markState.f k t717 t720 1).bind fun bt746 => ((laws_markIntS.f k t724 bt746.1).bind fun bt749 => (if bt749.1 < 0 then (laws_FnExactSlice.j0 k l1 true l0_0 l0_1 t710 t713 t727 t730) else ((laws_eqState.f k t727 t730 t710 t713).bind fun t751 => (laws_FnExactSlice.j0 k l1 (!t751) l0_0 l0_1 t710 t713 t727 t730))))) else (some false))) = some r := H
     have A21 := zm A210
     clear A210
     replace H := Option.bind_eq_some_iff.mp H
     obtain ⟨t745, A220, H⟩ := H
     replace H : (if t745 = true then ((laws_markState.f k t717 t720 1).bind fun bt746 => ((laws_markIntS.f k t724 bt746.1).bind fun bt749 => (if bt749.1 < 0 then (laws_FnExactSlice.j0 k l1 true l0_0 l0_1 t710 t713 t727 t730) else ((laws_eqState.f k t727 t730 t710 t713).bind fun t751 => (laws_FnExactSlice.j0 k l1 (!t751) l0_0 l0_1 t710 t713 t727 t730))))) else (some false)) = some r := H
     have A22 := zm A220
     clear A220
     by_cases c23 : t745 = true
     ·subst c23
      have H1 : ((laws_markState.f k t717 t720 1).bind fun bt746 => ((laws_markIntS.f k t724 bt746.1).bind fun bt749 => (if bt749.1 < 0 then (laws_FnExactSlice.j0 k l1 true l0_0 l0_1 t710 t713 t727 t730) else ((laws_eqState.f k t727 t730 t710 t713).bind fun t751 => (laws_FnExactSlice.j0 k l1 (!t751) l0_0 l0_1 t710 t713 t727 t730))))) = some r := by rw [if_pos rfl] at H; exact H
      clear H
      have H := H1
      clear H1
      replace H := Option.bind_eq_some_iff.mp H
      obtain ⟨⟨t746, t747, t748⟩, A240, H⟩ := H
      replace H : ((laws_markIntS.f k t724 t746).bind fun bt749 => (if bt749.1 < 0 then (laws_FnExactSlice.j0 k l1 true l0_0 l0_1 t710 t713 t727 t730) else ((laws_eqState.f k t727 t730 t710 t713).bind fun t751 => (laws_FnExactSlice.j0 k l1 (!t751) l0_0 l0_1 t710 t713 t727 t730)))) = some r := H
      have A24 := zm A240
      clear A240
      replace H := Option.bind_eq_some_iff.mp H
      obtain ⟨⟨t749, t750⟩, A250, H⟩ := H
      replace H : (if t749 < 0 then (laws_FnExactSlice.j0 k l1 true l0_0 l0_1 t710 t713 t727 t730) else ((laws_eqState.f k t727 t730 t710 t713).bind fun t751 => (laws_FnExactSlice.j0 k l1 (!t751) l0_0 l0_1 t710 t713 t727 t730))) = some r := H
      have A25 := zm A250
      clear A250
      have HC26 := zm H
      clear H
      go_enter Try.func10, Try.ntmps10
      try go_wp2_with (first | ((with_reducible refine gate_dst (N := 2) rfl ?_); refine zbox 2 #[.slice A0_0 l0_0.length c0_0, .slice A0_1 l0_1.length c0_1] 25 ?_; intro gb699 hg w27 hbox hb; have BK699 := zm (hbox); have GW699 := zge w hg zB; have GE699 := zge w hg zB; replace HB := zm (below_step zB hb); clear hb hbox hg; have hcz28_0 : w27.cell? ⟨gb699, 0, none⟩ = some (.slice A0_0 l0_0.length c0_0) := (blk_cell BK699.out 0).trans rfl; have hcz28_1 : w27.cell? ⟨gb699, 1, none⟩ = some (.slice A0_1 l0_1.length c0_1) := (blk_cell BK699.out 1).trans rfl; have hfz28_0 := blk_frozen BK699.out 0; have hfz28_1 := blk_frozen BK699.out 1) | ((with_reducible refine gate_callee (f := 13) rfl ?_); refine zg (some 19) #[.agg #[.slice A0_0 l0_0.length c0_0, .slice A0_1 l0_1.length c0_1], .int .i64 1048576] Try.func13 ?_; (with_reducible refine (laws_szState.calls k _ _ l0_0 _ _ l0_1 1048576 t700 _ (zk (Kd.C_below HR0_0.out HB.out)) HC0_0.out (zk (Kd.C_below HR0_1.out HB.out)) HC0_1.out A5.out).mono ?_); rintro e w29 ⟨rfl, hb⟩; refine ⟨_, rfl, ?_⟩; replace BK699 := zm (blk_below (zb BK699) hb); replace HB := zm (below_step zB hb); clear hb; have hcz30_0 : w29.cell? ⟨gb699, 0, none⟩ = some (.slice A0_0 l0_0.length c0_0) := (blk_cell BK699.out 0).trans rfl; have hcz30_1 : w29.cell? ⟨gb699, 1, none⟩ = some (.slice A0_1 l0_1.length c0_1) := (blk_cell BK699.out 1).trans rfl; have hfz30_0 := blk_frozen BK699.out 0; have hfz30_1 := blk_frozen BK699.out 1) | ((with_reducible refine gate_callee (f := 15) rfl ?_); refine zg (some 23) #[.agg #[.slice A0_0 l0_0.length c0_0, .slice A0_1 l0_1.length c0_1]] Try.func15 ?_; (with_reducible refine (laws_toState.calls k _ _ l0_0 _ _ l0_1 t701 t704 _ (zk (Kd.C_below HR0_0.out HB.out)) HC0_0.out (zk (Kd.C_below HR0_1.out HB.out)) HC0_1.out A10.out).mono ?_); rintro e w31 ⟨v702, v705, rfl, ho0, ho1, hb⟩; refine ⟨_, rfl, ?_⟩; have HO703 := zm (Kd.R_lower ho0 (below_size zB)); have HO706 := zm (Kd.R_lower ho1 (below_size zB)); replace BK699 := zm (blk_below (zb BK699) hb); replace HB := zm (below_step zB hb); clear hb ho0 ho1) | ((with_reducible refine gate_callee (f := 36) rfl ?_); refine zg (some 25) #[.slice A1 l1.length c1] Try.func36 ?_; (with_reducible refine (laws_toIntS.calls k _ _ l1 t707 _ (zk (Kd.C_below HR1.out HB.out)) HC1.out A11.out).mono ?_); rintro e w32 ⟨v708, rfl, ho0, hb⟩; refine ⟨_, rfl, ?_⟩; replace HO703 := zm (Kd.R_below (zr HO703) hb); replace HO706 := zm (Kd.R_below (zr HO706) hb); have HO709 := zm (Kd.R_lower ho0 (below_size zB)); replace BK699 := zm (blk_below (zb BK699) hb); replace HB := zm (below_step zB hb); clear hb ho0; obtain ⟨Ao33, co33, eo33⟩ := Kd.R_slice HO703.out; subst eo33; obtain ⟨Ao34, co34, eo34⟩ := Kd.R_slice HO706.out; subst eo34; obtain ⟨Ao35, co35, eo35⟩ := Kd.R_slice HO709.out; subst eo35) | ((with_reducible refine gate_callee (f := 35) rfl ?_); refine zg (some 26) #[.agg #[.slice Ao33 t701.length co33, .slice Ao34 t704.length co34], .slice Ao35 t707.length co35] Try.func35 ?_; (with_reducible refine (spec_Slice.calls k _ _ t701 _ _ t704 _ _ t707 t710 t713 _ ?side1 ?side2 ?side3 ?side4 ?side5 ?side6 A12.out).mono ?_); (case side1 => repeat (first | exact (Kd.R_reads' HO703.out).2.2 | (with_reducible refine Kd.C_alloc ?_ _) | (with_reducible refine Kd.C_drewN ?_ _) | (with_reducible refine Kd.C_drew ?_))); (case side2 => exact (Kd.R_reads' HO703.out).2.1); (case side3 => repeat (first | exact (Kd.R_reads' HO706.out).2.2 | (with_reducible refine Kd.C_alloc ?_ _) | (with_reducible refine Kd.C_drewN ?_ _) | (with_reducible refine Kd.C_drew ?_))); (case side4 => exact (Kd.R_reads' HO706.out).2.1); (case side5 => repeat (first | exact (Kd.R_reads' HO709.out).2.2 | (with_reducible refine Kd.C_alloc ?_ _) | (with_reducible refine Kd.C_drewN ?_ _) | (with_reducible refine Kd.C_drew ?_))); (case side6 => exact (Kd.R_reads' HO709.out).2.1); rintro e w36 ⟨v711, v714, rfl, ho0, ho1, hb⟩; refine ⟨_, rfl, ?_⟩; replace HO709 := zm (Kd.R_below (zr HO709) hb); have HO712 := zm (Kd.R_lower (Kd.R_new' ho0 (Kd.R_lt (zr HO703))) (below_size zB)); replace HO703 := zm (Kd.R_elder' (zr HO703) (Kd.R_base ho0) hb); have HO715 := zm (Kd.R_lower (Kd.R_new' ho1 (Kd.R_lt (zr HO706))) (below_size zB)); replace HO706 := zm (Kd.R_elder' (zr HO706) (Kd.R_base ho1) hb); replace BK699 := zm (blk_below (zb BK699) hb); replace HB := zm (below_step zB hb); clear hb ho0 ho1) | ((with_reducible refine gate_dst (N := 6) rfl ?_); refine zbox 6 #[.slice none 0 0, .slice none 0 0] 32 ?_; intro gb716 hg w37 hbox hb; replace HO703 := zm (Kd.R_below (zr HO703) hb); replace HO706 := zm (Kd.R_below (zr HO706) hb); replace HO709 := zm (Kd.R_below (zr HO709) hb); replace HO712 := zm (Kd.R_below (zr HO712) hb); replace HO715 := zm (Kd.R_below (zr HO715) hb); have BK716 := zm (hbox); have GW716 := zge w hg zB; have GE716 := zge w hg zB; replace HB := zm (below_step zB hb); have NB699_716 := zlt hg (zb BK699); have NB716_699 := zgt hg (zb BK699); replace BK699 := zm (blk_below (zb BK699) hb); clear hb hbox hg; obtain ⟨Ao38, co38, eo38⟩ := Kd.R_slice HO712.out; subst eo38; have hnb39 := NB716_699.out; have hnc39 := NB699_716.out; have hcz40_0 : w37.cell? ⟨gb716, 0, none⟩ = some (.slice none 0 0) := (blk_cell BK716.out 0).trans rfl; have hcz40_1 : w37.cell? ⟨gb716, 1, none⟩ = some (.slice none 0 0) := (blk_cell BK716.out 1).trans rfl; have hfz40_0 := blk_frozen BK716.out 0; have hfz40_1 := blk_frozen BK716.out 1; obtain ⟨Ao41, co41, eo41⟩ := Kd.R_slice HO715.out; subst eo41; have hcz42_0 : w37.cell? ⟨gb699, 0, none⟩ = some (.slice A0_0 l0_0.length c0_0) := (blk_cell BK699.out 0).trans rfl; have hcz42_1 : w37.cell? ⟨gb699, 1, none⟩ = some (.slice A0_1 l0_1.length c0_1) := (blk_cell BK699.out 1).trans rfl; have hfz42_0 := blk_frozen BK699.out 0; have hfz42_1 := blk_frozen BK699.out 1) | ((with_reducible refine gate_callee (f := 15) rfl ?_); refine zg (some 28) #[.agg #[.slice A0_0 l0_0.length c0_0, .slice A0_1 l0_1.length c0_1]] Try.func15 ?_; (with_reducible refine (laws_toState.calls k _ _ l0_0 _ _ l0_1 t717 t720 _ ?side1 HC0_0.out ?side3 HC0_1.out A13.out).mono ?_); (case side1 => exact Kd.C_below HR0_0.out zB); (case side3 => exact Kd.C_below HR0_1.out zB); rintro e w43 ⟨v718, v721, rfl, ho0, ho1, hb⟩; refine ⟨_, rfl, ?_⟩; replace HO709 := zm (Kd.R_below (zrs <| (Kd.R_mono (zfr (zfr (Kd.R_types HO709.out BK716.out (by decide)))) (fun _ h_ => h_.1))) hb); have HO719 := zm (Kd.R_lower (Kd.R_new' (Kd.R_new' ho0 (Kd.R_lt (zrs <| (Kd.R_mono (zfr (zfr (Kd.R_types HO703.out BK716.out (by decide)))) (fun _ h_ => h_.1))))) (Kd.R_lt (zrs <| (Kd.R_mono (zfr (zfr (Kd.R_types HO712.out BK716.out (by decide)))) (fun _ h_ => h_.1))))) (below_size zB)); replace HO703 := zm (Kd.R_elder' (zrs <| (Kd.R_mono (zfr (zfr (Kd.R_types HO703.out BK716.out (by decide)))) (fun _ h_ => h_.1))) (Kd.R_base ho0) hb); replace HO712 := zm (Kd.R_elder' (zrs <| (Kd.R_mono (zfr (zfr (Kd.R_types HO712.out BK716.out (by decide)))) (fun _ h_ => h_.1))) (Kd.R_base ho0) hb); have HO722 := zm (Kd.R_lower (Kd.R_new' (Kd.R_new' ho1 (Kd.R_lt (zrs <| (Kd.R_mono (zfr (zfr (Kd.R_types HO706.out BK716.out (by decide)))) (fun _ h_ => h_.1))))) (Kd.R_lt (zrs <| (Kd.R_mono (zfr (zfr (Kd.R_types HO715.out BK716.out (by decide)))) (fun _ h_ => h_.1))))) (below_size zB)); replace HO706 := zm (Kd.R_elder' (zrs <| (Kd.R_mono (zfr (zfr (Kd.R_types HO706.out BK716.out (by decide)))) (fun _ h_ => h_.1))) (Kd.R_base ho1) hb); replace HO715 := zm (Kd.R_elder' (zrs <| (Kd.R_mono (zfr (zfr (Kd.R_types HO715.out BK716.out (by decide)))) (fun _ h_ => h_.1))) (Kd.R_base ho1) hb); replace BK699 := zm (blk_below (g := gb699) (o := .cells #[.slice A0_0 l0_0.length c0_0, .slice A0_1 l0_1.length c0_1] 25 (0, 0)) (zfar (zfar (zb BK699) NB699_716) NB699_716) hb); replace BK716 := zm (blk_below (g := gb716) (o := .cells #[.slice Ao38 t710.length co38, .slice Ao41 t713.length co41] 32 (0, 0)) (zput (zput (zb BK716) 0) 1) hb); replace HB := zm (below_step zB hb); clear hb ho0 ho1) | ((with_reducible refine gate_dst (N := 7) rfl ?_); refine zbox 7 #[.slice none 0 0, .slice none 0 0] 32 ?_; intro gb723 hg w44 hbox hb; replace HO703 := zm (Kd.R_below (zr HO703) hb); replace HO706 := zm (Kd.R_below (zr HO706) hb); replace HO709 := zm (Kd.R_below (zr HO709) hb); replace HO712 := zm (Kd.R_below (zr HO712) hb); replace HO715 := zm (Kd.R_below (zr HO715) hb); replace HO719 := zm (Kd.R_below (zr HO719) hb); replace HO722 := zm (Kd.R_below (zr HO722) hb); have BK723 := zm (hbox); have GW723 := zge w hg zB; have GE723 := zge w hg zB; replace HB := zm (below_step zB hb); have NB699_723 := zlt hg (zb BK699); have NB723_699 := zgt hg (zb BK699); replace BK699 := zm (blk_below (zb BK699) hb); have NB716_723 := zlt hg (zb BK716); have NB723_716 := zgt hg (zb BK716); replace BK716 := zm (blk_below (zb BK716) hb); clear hb hbox hg; obtain ⟨Ao45, co45, eo45⟩ := Kd.R_slice HO719.out; subst eo45; have hnb46 := NB723_699.out; have hnc46 := NB699_723.out; have hnb47 := NB723_716.out; have hnc47 := NB716_723.out; have hcz48_0 : w44.cell? ⟨gb723, 0, none⟩ = some (.slice none 0 0) := (blk_cell BK723.out 0).trans rfl; have hcz48_1 : w44.cell? ⟨gb723, 1, none⟩ = some (.slice none 0 0) := (blk_cell BK723.out 1).trans rfl; have hfz48_0 := blk_frozen BK723.out 0; have hfz48_1 := blk_frozen BK723.out 1; obtain ⟨Ao49, co49, eo49⟩ := Kd.R_slice HO722.out; subst eo49) | ((with_reducible refine gate_callee (f := 36) rfl ?_); refine zg (some 30) #[.slice A1 l1.length c1] Try.func36 ?_; (with_reducible refine (laws_toIntS.calls k _ _ l1 t724 _ ?side1 HC1.out A14.out).mono ?_); (case side1 => exact Kd.C_below HR1.out zB); rintro e w50 ⟨v725, rfl, ho0, hb⟩; refine ⟨_, rfl, ?_⟩; replace HO703 := zm (Kd.R_below (zrs <| (Kd.R_mono (zfr (zfr (Kd.R_types HO703.out BK723.out (by decide)))) (fun _ h_ => h_.1))) hb); replace HO706 := zm (Kd.R_below (zrs <| (Kd.R_mono (zfr (zfr (Kd.R_types HO706.out BK723.out (by decide)))) (fun _ h_ => h_.1))) hb); replace HO712 := zm (Kd.R_below (zrs <| (Kd.R_mono (zfr (zfr (Kd.R_types HO712.out BK723.out (by decide)))) (fun _ h_ => h_.1))) hb); replace HO715 := zm (Kd.R_below (zrs <| (Kd.R_mono (zfr (zfr (Kd.R_types HO715.out BK723.out (by decide)))) (fun _ h_ => h_.1))) hb); replace HO719 := zm (Kd.R_below (zrs <| (Kd.R_mono (zfr (zfr (Kd.R_types HO719.out BK723.out (by decide)))) (fun _ h_ => h_.1))) hb); replace HO722 := zm (Kd.R_below (zrs <| (Kd.R_mono (zfr (zfr (Kd.R_types HO722.out BK723.out (by decide)))) (fun _ h_ => h_.1))) hb); have HO726 := zm (Kd.R_lower (Kd.R_new' ho0 (Kd.R_lt (zrs <| (Kd.R_mono (zfr (zfr (Kd.R_types HO709.out BK723.out (by decide)))) (fun _ h_ => h_.1))))) (below_size zB)); replace HO709 := zm (Kd.R_elder' (zrs <| (Kd.R_mono (zfr (zfr (Kd.R_types HO709.out BK723.out (by decide)))) (fun _ h_ => h_.1))) (Kd.R_base ho0) hb); replace BK699 := zm (blk_below (g := gb699) (o := .cells #[.slice A0_0 l0_0.length c0_0, .slice A0_1 l0_1.length c0_1] 25 (0, 0)) (zfar (zfar (zb BK699) NB699_723) NB699_723) hb); replace BK716 := zm (blk_below (g := gb716) (o := .cells #[.slice Ao38 t710.length co38, .slice Ao41 t713.length co41] 32 (0, 0)) (zfar (zfar (zb BK716) NB716_723) NB716_723) hb); replace BK723 := zm (blk_below (g := gb723) (o := .cells #[.slice Ao45 t717.length co45, .slice Ao49 t720.length co49] 32 (0, 0)) (zput (zput (zb BK723) 0) 1) hb); replace HB := zm (below_step zB hb); clear hb ho0; have hcz51_0 : w50.cell? ⟨gb723, 0, none⟩ = some (.slice Ao45 t717.length co45) := (blk_cell BK723.out 0).trans rfl; have hcz51_1 : w50.cell? ⟨gb723, 1, none⟩ = some (.slice Ao49 t720.length co49) := (blk_cell BK723.out 1).trans rfl; have hfz51_0 := blk_frozen BK723.out 0; have hfz51_1 := blk_frozen BK723.out 1; obtain ⟨Ao52, co52, eo52⟩ := Kd.R_slice HO726.out; subst eo52) | ((with_reducible refine gate_callee (f := 37) rfl ?_); refine zg (some 33) #[.agg #[.slice Ao45 t717.length co45, .slice Ao49 t720.length co49], .slice Ao52 t724.length co52] Try.func37 ?_; (with_reducible refine (impl_Slice.calls k _ _ t717 _ _ t720 _ _ t724 t727 t730 _ ?side1 ?side2 ?side3 ?side4 ?side5 ?side6 A15.out).mono ?_); (case side1 => repeat (first | exact (Kd.R_reads' HO719.out).2.2 | (with_reducible refine Kd.C_alloc ?_ _) | (with_reducible refine Kd.C_drewN ?_ _) | (with_reducible refine Kd.C_drew ?_))); (case side2 => exact (Kd.R_reads' HO719.out).2.1); (case side3 => repeat (first | exact (Kd.R_reads' HO722.out).2.2 | (with_reducible refine Kd.C_alloc ?_ _) | (with_reducible refine Kd.C_drewN ?_ _) | (with_reducible refine Kd.C_drew ?_))); (case side4 => exact (Kd.R_reads' HO722.out).2.1); (case side5 => repeat (first | exact (Kd.R_reads' HO726.out).2.2 | (with_reducible refine Kd.C_alloc ?_ _) | (with_reducible refine Kd.C_drewN ?_ _) | (with_reducible refine Kd.C_drew ?_))); (case side6 => exact (Kd.R_reads' HO726.out).2.1); rintro e w53 ⟨v728, v731, rfl, ho0, ho1, hb⟩; refine ⟨_, rfl, ?_⟩; replace HO709 := zm (Kd.R_below (zr HO709) hb); replace HO726 := zm (Kd.R_below (zr HO726) hb); have HO729 := zm (Kd.R_lower (Kd.R_new' (Kd.R_new' (Kd.R_new' ho0 (Kd.R_lt (zr HO703))) (Kd.R_lt (zr HO712))) (Kd.R_lt (zr HO719))) (below_size zB)); replace HO703 := zm (Kd.R_elder' (zr HO703) (Kd.R_base ho0) hb); replace HO712 := zm (Kd.R_elder' (zr HO712) (Kd.R_base ho0) hb); replace HO719 := zm (Kd.R_elder' (zr HO719) (Kd.R_base ho0) hb); have HO732 := zm (Kd.R_lower (Kd.R_new' (Kd.R_new' (Kd.R_new' ho1 (Kd.R_lt (zr HO706))) (Kd.R_lt (zr HO715))) (Kd.R_lt (zr HO722))) (below_size zB)); replace HO706 := zm (Kd.R_elder' (zr HO706) (Kd.R_base ho1) hb); replace HO715 := zm (Kd.R_elder' (zr HO715) (Kd.R_base ho1) hb); replace HO722 := zm (Kd.R_elder' (zr HO722) (Kd.R_base ho1) hb); replace BK699 := zm (blk_below (zb BK699) hb); replace BK716 := zm (blk_below (zb BK716) hb); replace BK723 := zm (blk_below (zb BK723) hb); replace HB := zm (below_step zB hb); clear hb ho0 ho1) | ((with_reducible refine gate_dst (N := 9) rfl ?_); refine zbox 9 #[.slice none 0 0, .slice none 0 0] 32 ?_; intro gb733 hg w54 hbox hb; replace HO703 := zm (Kd.R_below (zr HO703) hb); replace HO706 := zm (Kd.R_below (zr HO706) hb); replace HO709 := zm (Kd.R_below (zr HO709) hb); replace HO712 := zm (Kd.R_below (zr HO712) hb); replace HO715 := zm (Kd.R_below (zr HO715) hb); replace HO719 := zm (Kd.R_below (zr HO719) hb); replace HO722 := zm (Kd.R_below (zr HO722) hb); replace HO726 := zm (Kd.R_below (zr HO726) hb); replace HO729 := zm (Kd.R_below (zr HO729) hb); replace HO732 := zm (Kd.R_below (zr HO732) hb); have BK733 := zm (hbox); have GW733 := zge w hg zB; have GE733 := zge w hg zB; replace HB := zm (below_step zB hb); have NB699_733 := zlt hg (zb BK699); have NB733_699 := zgt hg (zb BK699); replace BK699 := zm (blk_below (zb BK699) hb); have NB716_733 := zlt hg (zb BK716); have NB733_716 := zgt hg (zb BK716); replace BK716 := zm (blk_below (zb BK716) hb); have NB723_733 := zlt hg (zb BK723); have NB733_723 := zgt hg (zb BK723); replace BK723 := zm (blk_below (zb BK723) hb); clear hb hbox hg; obtain ⟨Ao55, co55, eo55⟩ := Kd.R_slice HO729.out; subst eo55; have hnb56 := NB733_699.out; have hnc56 := NB699_733.out; have hnb57 := NB733_716.out; have hnc57 := NB716_733.out; have hnb58 := NB733_723.out; have hnc58 := NB723_733.out; have hcz59_0 : w54.cell? ⟨gb733, 0, none⟩ = some (.slice none 0 0) := (blk_cell BK733.out 0).trans rfl; have hcz59_1 : w54.cell? ⟨gb733, 1, none⟩ = some (.slice none 0 0) := (blk_cell BK733.out 1).trans rfl; have hfz59_0 := blk_frozen BK733.out 0; have hfz59_1 := blk_frozen BK733.out 1; obtain ⟨Ao60, co60, eo60⟩ := Kd.R_slice HO732.out; subst eo60; have hcz61_0 : w54.cell? ⟨gb716, 0, none⟩ = some (.slice Ao38 t710.length co38) := (blk_cell BK716.out 0).trans rfl; have hcz61_1 : w54.cell? ⟨gb716, 1, none⟩ = some (.slice Ao41 t713.length co41) := (blk_cell BK716.out 1).trans rfl; have hfz61_0 := blk_frozen BK716.out 0; have hfz61_1 := blk_frozen BK716.out 1) | ((with_reducible refine gate_callee (f := 18) rfl ?_); refine zg (some 36) #[.agg #[.slice Ao55 t727.length co55, .slice Ao60 t730.length co60], .agg #[.slice Ao38 t710.length co38, .slice Ao41 t713.length co41]] Try.func18 ?_; (with_reducible refine (laws_eqState.calls k _ _ t727 _ _ t730 _ _ t710 _ _ t713 true _ ?side1 ?side2 ?side3 ?side4 ?side5 ?side6 ?side7 ?side8 A16.out).mono ?_); (case side1 => refine (Kd.R_reads' (e := 68) (base := w.heap.size) (ok := fun k_ => (((True ∧ some k_ ≠ (.slice Ao33 t701.length co33 : Value).ownBlock) ∧ some k_ ≠ (.slice Ao38 t710.length co38 : Value).ownBlock) ∧ some k_ ≠ (.slice Ao45 t717.length co45 : Value).ownBlock)) (n := t727.length) (c := co55) ?_).2.2; exact (zrs <| (Kd.R_mono (zfr (zfr (Kd.R_types HO729.out BK733.out (by decide)))) (fun _ h_ => h_.1)))); (case side2 => exact (Kd.R_reads' HO729.out).2.1); (case side3 => refine (Kd.R_reads' (e := 72) (base := w.heap.size) (ok := fun k_ => (((True ∧ some k_ ≠ (.slice Ao34 t704.length co34 : Value).ownBlock) ∧ some k_ ≠ (.slice Ao41 t713.length co41 : Value).ownBlock) ∧ some k_ ≠ (.slice Ao49 t720.length co49 : Value).ownBlock)) (n := t730.length) (c := co60) ?_).2.2; exact (zrs <| (Kd.R_mono (zfr (zfr (Kd.R_types HO732.out BK733.out (by decide)))) (fun _ h_ => h_.1)))); (case side4 => exact (Kd.R_reads' HO732.out).2.1); (case side5 => refine (Kd.R_reads' (e := 68) (base := w.heap.size) (ok := fun k_ => (((True ∧ some k_ ≠ (.slice Ao33 t701.length co33 : Value).ownBlock) ∧ some k_ ≠ (.slice Ao45 t717.length co45 : Value).ownBlock) ∧ some k_ ≠ (.slice Ao55 t727.length co55 : Value).ownBlock)) (n := t710.length) (c := co38) ?_).2.2; exact (zrs <| (Kd.R_mono (zfr (zfr (Kd.R_types HO712.out BK733.out (by decide)))) (fun _ h_ => h_.1)))); (case side6 => exact (Kd.R_reads' HO712.out).2.1); (case side7 => refine (Kd.R_reads' (e := 72) (base := w.heap.size) (ok := fun k_ => (((True ∧ some k_ ≠ (.slice Ao34 t704.length co34 : Value).ownBlock) ∧ some k_ ≠ (.slice Ao49 t720.length co49 : Value).ownBlock) ∧ some k_ ≠ (.slice Ao60 t730.length co60 : Value).ownBlock)) (n := t713.length) (c := co41) ?_).2.2; exact (zrs <| (Kd.R_mono (zfr (zfr (Kd.R_types HO715.out BK733.out (by decide)))) (fun _ h_ => h_.1)))); (case side8 => exact (Kd.R_reads' HO715.out).2.1); rintro e w62 ⟨rfl, hb⟩; refine ⟨_, rfl, ?_⟩; replace HO703 := zm (Kd.R_below (zrs <| (Kd.R_mono (zfr (zfr (Kd.R_types HO703.out BK733.out (by decide)))) (fun _ h_ => h_.1))) hb); replace HO706 := zm (Kd.R_below (zrs <| (Kd.R_mono (zfr (zfr (Kd.R_types HO706.out BK733.out (by decide)))) (fun _ h_ => h_.1))) hb); replace HO709 := zm (Kd.R_below (zrs <| (Kd.R_mono (zfr (zfr (Kd.R_types HO709.out BK733.out (by decide)))) (fun _ h_ => h_.1))) hb); replace HO712 := zm (Kd.R_below (zrs <| (Kd.R_mono (zfr (zfr (Kd.R_types HO712.out BK733.out (by decide)))) (fun _ h_ => h_.1))) hb); replace HO715 := zm (Kd.R_below (zrs <| (Kd.R_mono (zfr (zfr (Kd.R_types HO715.out BK733.out (by decide)))) (fun _ h_ => h_.1))) hb); replace HO719 := zm (Kd.R_below (zrs <| (Kd.R_mono (zfr (zfr (Kd.R_types HO719.out BK733.out (by decide)))) (fun _ h_ => h_.1))) hb); replace HO722 := zm (Kd.R_below (zrs <| (Kd.R_mono (zfr (zfr (Kd.R_types HO722.out BK733.out (by decide)))) (fun _ h_ => h_.1))) hb); replace HO726 := zm (Kd.R_below (zrs <| (Kd.R_mono (zfr (zfr (Kd.R_types HO726.out BK733.out (by decide)))) (fun _ h_ => h_.1))) hb); replace HO729 := zm (Kd.R_below (zrs <| (Kd.R_mono (zfr (zfr (Kd.R_types HO729.out BK733.out (by decide)))) (fun _ h_ => h_.1))) hb); replace HO732 := zm (Kd.R_below (zrs <| (Kd.R_mono (zfr (zfr (Kd.R_types HO732.out BK733.out (by decide)))) (fun _ h_ => h_.1))) hb); replace BK699 := zm (blk_below (g := gb699) (o := .cells #[.slice A0_0 l0_0.length c0_0, .slice A0_1 l0_1.length c0_1] 25 (0, 0)) (zfar (zfar (zb BK699) NB699_733) NB699_733) hb); replace BK716 := zm (blk_below (g := gb716) (o := .cells #[.slice Ao38 t710.length co38, .slice Ao41 t713.length co41] 32 (0, 0)) (zfar (zfar (zb BK716) NB716_733) NB716_733) hb); replace BK723 := zm (blk_below (g := gb723) (o := .cells #[.slice Ao45 t717.length co45, .slice Ao49 t720.length co49] 32 (0, 0)) (zfar (zfar (zb BK723) NB723_733) NB723_733) hb); replace BK733 := zm (blk_below (g := gb733) (o := .cells #[.slice Ao55 t727.length co55, .slice Ao60 t730.length co60] 32 (0, 0)) (zput (zput (zb BK733) 0) 1) hb); replace HB := zm (below_step zB hb); clear hb))
      replace HO703 := zm (Kd.R_drew HO703.out)
      replace HO706 := zm (Kd.R_drew HO706.out)
      replace HO709 := zm (Kd.R_drew HO709.out)
      replace HO712 := zm (Kd.R_drew HO712.out)
      replace HO715 := zm (Kd.R_drew HO715.out)
      replace HO719 := zm (Kd.R_drew HO719.out)
      replace HO722 := zm (Kd.R_drew HO722.out)
      replace HO726 := zm (Kd.R_drew HO726.out)
      replace HO729 := zm (Kd.R_drew HO729.out)
      replace HO732 := zm (Kd.R_drew HO732.out)
      replace BK699 := zm (blk_drew BK699.out)
      replace BK716 := zm (blk_drew BK716.out)
      replace BK723 := zm (blk_drew BK723.out)
      replace BK733 := zm (blk_drew BK733.out)
      replace HB := zm (below_drew1 HB.out)
      refine start_ (n := 5) (S := fun w' => w'.cell? ⟨gb723, 0, none⟩ = some (.slice Ao45 t717.length co45) ∧ w'.cell? ⟨gb723, 1, none⟩ = some (.slice Ao49 t720.length co49) ∧ w'.cell? ⟨gb699, 0, none⟩ = some (.slice A0_0 l0_0.length c0_0) ∧ w'.cell? ⟨gb699, 1, none⟩ = some (.slice A0_1 l0_1.length c0_1)) (ds := []) (zl 5 0) (by kernel_rfl) rfl rfl ⟨(blk_cell BK723.out 0).trans rfl, (blk_cell BK723.out 1).trans rfl, (blk_cell BK699.out 0).trans rfl, (blk_cell BK699.out 1).trans rfl⟩ (fun hHeld => ?_)
      generalize w62.drew = w63 at HO703 HO706 HO709 HO712 HO715 HO719 HO722 HO726 HO729 HO732 BK699 BK716 BK723 BK733 HB hHeld ⊢
      refine zt 0 (some 38) (zl 5 1) ?_
      refine zt 1 (some 39) (zl 5 3) ?_
      refine zo 2 (some 40) (zl 5 7) (fun K hK => ?_)
      refine zgo #[.agg #[.slice A0_0 l0_0.length c0_0, .slice A0_1 l0_1.length c0_1]] Try.func15 ?_
      with_reducible refine (laws_toState.calls k _ _ l0_0 _ _ l0_1 t735 t738 _ (zk (Kd.C_below HR0_0.out HB.out)) HC0_0.out (zk (Kd.C_below HR0_1.out HB.out)) HC0_1.out A18.out).mono ?_
      rintro e w64 ⟨v736, v739, rfl, ho0, ho1, hb⟩
      refine ⟨_, rfl, ?_⟩
      replace HO709 := zm (Kd.R_below (zr HO709) hb)
      replace HO726 := zm (Kd.R_below (zr HO726) hb)
      have HO737 := zm (Kd.R_lower (Kd.R_new' (Kd.R_new' (Kd.R_new' (Kd.R_new' ho0 (Kd.R_lt (zr HO703))) (Kd.R_lt (zr HO712))) (Kd.R_lt (zr HO719))) (Kd.R_lt (zr HO729))) (below_size zB))
      replace HO703 := zm (Kd.R_elder' (zr HO703) (Kd.R_base ho0) hb)
      replace HO712 := zm (Kd.R_elder' (zr HO712) (Kd.R_base ho0) hb)
      replace HO719 := zm (Kd.R_elder' (zr HO719) (Kd.R_base ho0) hb)
      replace HO729 := zm (Kd.R_elder' (zr HO729) (Kd.R_base ho0) hb)
      have HO740 := zm (Kd.R_lower (Kd.R_new' (Kd.R_new' (Kd.R_new' (Kd.R_new' ho1 (Kd.R_lt (zr HO706))) (Kd.R_lt (zr HO715))) (Kd.R_lt (zr HO722))) (Kd.R_lt (zr HO732))) (below_size zB))
      replace HO706 := zm (Kd.R_elder' (zr HO706) (Kd.R_base ho1) hb)
      replace HO715 := zm (Kd.R_elder' (zr HO715) (Kd.R_base ho1) hb)
      replace HO722 := zm (Kd.R_elder' (zr HO722) (Kd.R_base ho1) hb)
      replace HO732 := zm (Kd.R_elder' (zr HO732) (Kd.R_base ho1) hb)
      replace BK699 := zm (blk_below (zb BK699) hb)
      replace BK716 := zm (blk_below (zb BK716) hb)
      replace BK723 := zm (blk_below (zb BK723) hb)
      replace BK733 := zm (blk_below (zb BK733) hb)
      replace HB := zm (below_step zB hb)
      (try clear hb)
      (try clear hb2)
      (try clear hk)
      (try clear hi)
      (try clear ho0)
      (try clear ho1)
      obtain ⟨Ao65, co65, eo65⟩ := Kd.R_slice HO737.out
      (first | subst eo65 | (injection eo65 with f1_ f2_ f3_; have f4_ := f1_.symm; have f5_ := f3_.symm; clear f1_ f2_ f3_; subst f4_; subst f5_))
      obtain ⟨Ao66, co66, eo66⟩ := Kd.R_slice HO740.out
      (first | subst eo66 | (injection eo66 with f1_ f2_ f3_; have f4_ := f1_.symm; have f5_ := f3_.symm; clear f1_ f2_ f3_; subst f4_; subst f5_))
      refine hK.out _ _ ⟨(blk_cell BK723.out 0).trans rfl, (blk_cell BK723.out 1).trans rfl, (blk_cell BK699.out 0).trans rfl, (blk_cell BK699.out 1).trans rfl⟩ (fun hHeld => ?_)
      clear hK K
      refine zn ?_
      refine zo 3 (some 41) (zl 5 15) (fun K hK => ?_)
      refine zgo #[.agg #[.slice Ao45 t717.length co45, .slice Ao49 t720.length co49], .agg #[.slice Ao65 t735.length co65, .slice Ao66 t738.length co66]] Try.func18 ?_
      with_reducible refine (laws_eqState.calls k _ _ t717 _ _ t720 _ _ t735 _ _ t738 true _ ?side1 ?side2 ?side3 ?side4 ?side5 ?side6 ?side7 ?side8 A19.out).mono ?_
      (case side1 => repeat (first | exact (Kd.R_reads' HO719.out).2.2 | (with_reducible refine Kd.C_alloc ?_ _) | (with_reducible refine Kd.C_drewN ?_ _) | (with_reducible refine Kd.C_drew ?_)))
      (case side2 => exact (Kd.R_reads' HO719.out).2.1)
      (case side3 => repeat (first | exact (Kd.R_reads' HO722.out).2.2 | (with_reducible refine Kd.C_alloc ?_ _) | (with_reducible refine Kd.C_drewN ?_ _) | (with_reducible refine Kd.C_drew ?_)))
      (case side4 => exact (Kd.R_reads' HO722.out).2.1)
      (case side5 => repeat (first | exact (Kd.R_reads' HO737.out).2.2 | (with_reducible refine Kd.C_alloc ?_ _) | (with_reducible refine Kd.C_drewN ?_ _) | (with_reducible refine Kd.C_drew ?_)))
      (case side6 => exact (Kd.R_reads' HO737.out).2.1)
      (case side7 => repeat (first | exact (Kd.R_reads' HO740.out).2.2 | (with_reducible refine Kd.C_alloc ?_ _) | (with_reducible refine Kd.C_drewN ?_ _) | (with_reducible refine Kd.C_drew ?_)))
      (case side8 => exact (Kd.R_reads' HO740.out).2.1)
      rintro e w67 ⟨rfl, hb⟩
      refine ⟨_, rfl, ?_⟩
      replace HO703 := zm (Kd.R_below (zr HO703) hb)
      replace HO706 := zm (Kd.R_below (zr HO706) hb)
      replace HO709 := zm (Kd.R_below (zr HO709) hb)
      replace HO712 := zm (Kd.R_below (zr HO712) hb)
      replace HO715 := zm (Kd.R_below (zr HO715) hb)
      replace HO719 := zm (Kd.R_below (zr HO719) hb)
      replace HO722 := zm (Kd.R_below (zr HO722) hb)
      replace HO726 := zm (Kd.R_below (zr HO726) hb)
      replace HO729 := zm (Kd.R_below (zr HO729) hb)
      replace HO732 := zm (Kd.R_below (zr HO732) hb)
      replace HO737 := zm (Kd.R_below (zr HO737) hb)
      replace HO740 := zm (Kd.R_below (zr HO740) hb)
      replace BK699 := zm (blk_below (zb BK699) hb)
      replace BK716 := zm (blk_below (zb BK716) hb)
      replace BK723 := zm (blk_below (zb BK723) hb)
      replace BK733 := zm (blk_below (zb BK733) hb)
      replace HB := zm (below_step zB hb)
      (try clear hb)
      (try clear hb2)
      (try clear hk)
      (try clear hi)
      refine hK.out _ _ ⟨(blk_cell BK723.out 0).trans rfl, (blk_cell BK723.out 1).trans rfl, (blk_cell BK699.out 0).trans rfl, (blk_cell BK699.out 1).trans rfl⟩ (fun hHeld => ?_)
      clear hK K
      refine zn ?_
      refine zp 4 (some 42) (zl 5 31) ?_
      refine done_ (by kernel_rfl) ?_
      go_upto_region 20 with (first | ((with_reducible refine gate_callee (f := 36) rfl ?_); refine zg (some 45) #[.slice A1 l1.length c1] Try.func36 ?_; (with_reducible refine (laws_toIntS.calls k _ _ l1 t742 _ (zk (Kd.C_below HR1.out HB.out)) HC1.out A21.out).mono ?_); rintro e w68 ⟨v743, rfl, ho0, hb⟩; refine ⟨_, rfl, ?_⟩; replace HO703 := zm (Kd.R_below (zr HO703) hb); replace HO706 := zm (Kd.R_below (zr HO706) hb); replace HO712 := zm (Kd.R_below (zr HO712) hb); replace HO715 := zm (Kd.R_below (zr HO715) hb); replace HO719 := zm (Kd.R_below (zr HO719) hb); replace HO722 := zm (Kd.R_below (zr HO722) hb); replace HO729 := zm (Kd.R_below (zr HO729) hb); replace HO732 := zm (Kd.R_below (zr HO732) hb); replace HO737 := zm (Kd.R_below (zr HO737) hb); replace HO740 := zm (Kd.R_below (zr HO740) hb); have HO744 := zm (Kd.R_lower (Kd.R_new' (Kd.R_new' ho0 (Kd.R_lt (zr HO709))) (Kd.R_lt (zr HO726))) (below_size zB)); replace HO709 := zm (Kd.R_elder' (zr HO709) (Kd.R_base ho0) hb); replace HO726 := zm (Kd.R_elder' (zr HO726) (Kd.R_base ho0) hb); replace BK699 := zm (blk_below (zb BK699) hb); replace BK716 := zm (blk_below (zb BK716) hb); replace BK723 := zm (blk_below (zb BK723) hb); replace BK733 := zm (blk_below (zb BK733) hb); replace HB := zm (below_step zB hb); clear hb ho0; obtain ⟨Ao69, co69, eo69⟩ := Kd.R_slice HO744.out; subst eo69) | ((with_reducible refine gate_callee (f := 38) rfl ?_); refine zg (some 46) #[.slice Ao52 t724.length co52, .slice Ao69 t742.length co69] Try.func38 ?_; (with_reducible refine (laws_eqIntS.calls k _ _ t724 _ _ t742 true _ ?side1 ?side2 ?side3 ?side4 A22.out).mono ?_); (case side1 => repeat (first | exact (Kd.R_reads' HO726.out).2.2 | (with_reducible refine Kd.C_alloc ?_ _) | (with_reducible refine Kd.C_drewN ?_ _) | (with_reducible refine Kd.C_drew ?_))); (case side2 => exact (Kd.R_reads' HO726.out).2.1); (case side3 => repeat (first | exact (Kd.R_reads' HO744.out).2.2 | (with_reducible refine Kd.C_alloc ?_ _) | (with_reducible refine Kd.C_drewN ?_ _) | (with_reducible refine Kd.C_drew ?_))); (case side4 => exact (Kd.R_reads' HO744.out).2.1); rintro e w' ⟨rfl, ⟨nd, rfl⟩⟩; refine ⟨_, rfl, ?_⟩; have hcz70_0 : w68.cell? ⟨gb723, 0, none⟩ = some (.slice Ao45 t717.length co45) := (blk_cell BK723.out 0).trans rfl; have hcz70_1 : w68.cell? ⟨gb723, 1, none⟩ = some (.slice Ao49 t720.length co49) := (blk_cell BK723.out 1).trans rfl; have hfz70_0 := blk_frozen BK723.out 0; have hfz70_1 := blk_frozen BK723.out 1) | ((with_reducible refine gate_callee (f := 19) rfl ?_); refine zg (some 50) #[.agg #[.slice Ao45 t717.length co45, .slice Ao49 t720.length co49], .int .i64 1] Try.func19 ?_; (with_reducible refine (laws_markState.calls k (fun k_ => some k_ = (.slice Ao45 t717.length co45 : Value).ownBlock) (.slice Ao45 t717.length co45) t717 (fun k_ => some k_ = (.slice Ao49 t720.length co49 : Value).ownBlock) (.slice Ao49 t720.length co49) t720 1 t746 t747 t748 w _ zB ?side2 ?side3 A24.out).mono ?_); (case side2 => exact Kd.R_tight rfl HO719.out); (case side3 => exact Kd.R_tight rfl HO722.out); rintro e w71 ⟨rfl, hy0, hy1, hb, hkp⟩; refine ⟨_, rfl, ?_⟩; replace BK699 := zm (blk_kept (zb BK699) hkp (fun hs_ => Or.elim hs_ (fun e_ => (fun e_ => (Kd.R_ne HO719.out BK699.out (by decide)) e_) e_) (fun e_ => (fun e_ => (Kd.R_ne HO722.out BK699.out (by decide)) e_) e_))); replace HO703 := zm (Kd.R_mono (ok' := fun k_ => some k_ ≠ (.slice Ao38 t710.length co38 : Value).ownBlock ∧ some k_ ≠ (.slice Ao45 t717.length co45 : Value).ownBlock ∧ some k_ ≠ (.slice Ao55 t727.length co55 : Value).ownBlock ∧ some k_ ≠ (.slice Ao65 t735.length co65 : Value).ownBlock) (Kd.R_keptB ((Kd.R_apart' HO703.out (Kd.R_typed HO722.out) (by decide))) hkp (fun k_ hk_ hs_ => Or.elim hs_ (fun e_ => (hk_.1.1.1.2) e_) (fun e_ => (hk_.2) e_))) (fun k_ hk_ => ⟨hk_.1.1.1.1.1.2, hk_.1.1.1.1.2, hk_.1.1.1.2, hk_.1.1.2⟩)); replace HO706 := zm (Kd.R_mono (ok' := fun k_ => some k_ ≠ (.slice Ao41 t713.length co41 : Value).ownBlock ∧ some k_ ≠ (.slice Ao49 t720.length co49 : Value).ownBlock ∧ some k_ ≠ (.slice Ao60 t730.length co60 : Value).ownBlock ∧ some k_ ≠ (.slice Ao66 t738.length co66 : Value).ownBlock) (Kd.R_keptB ((Kd.R_apart' HO706.out (Kd.R_typed HO719.out) (by decide))) hkp (fun k_ hk_ hs_ => Or.elim hs_ (fun e_ => (hk_.2) e_) (fun e_ => (hk_.1.1.1.2) e_))) (fun k_ hk_ => ⟨hk_.1.1.1.1.1.2, hk_.1.1.1.1.2, hk_.1.1.1.2, hk_.1.1.2⟩)); replace HO709 := zm (Kd.R_mono (ok' := fun k_ => some k_ ≠ (.slice Ao52 t724.length co52 : Value).ownBlock ∧ some k_ ≠ (.slice Ao69 t742.length co69 : Value).ownBlock) (Kd.R_keptB ((Kd.R_apart' (Kd.R_apart' HO709.out (Kd.R_typed HO719.out) (by decide)) (Kd.R_typed HO722.out) (by decide))) hkp (fun k_ hk_ hs_ => Or.elim hs_ (fun e_ => (hk_.1.2) e_) (fun e_ => (hk_.2) e_))) (fun k_ hk_ => ⟨hk_.1.1.1.1.2, hk_.1.1.1.2⟩)); replace HO712 := zm (Kd.R_mono (ok' := fun k_ => some k_ ≠ (.slice Ao33 t701.length co33 : Value).ownBlock ∧ some k_ ≠ (.slice Ao45 t717.length co45 : Value).ownBlock ∧ some k_ ≠ (.slice Ao55 t727.length co55 : Value).ownBlock ∧ some k_ ≠ (.slice Ao65 t735.length co65 : Value).ownBlock) (Kd.R_keptB ((Kd.R_apart' HO712.out (Kd.R_typed HO722.out) (by decide))) hkp (fun k_ hk_ hs_ => Or.elim hs_ (fun e_ => (hk_.1.1.1.2) e_) (fun e_ => (hk_.2) e_))) (fun k_ hk_ => ⟨hk_.1.1.1.1.1.2, hk_.1.1.1.1.2, hk_.1.1.1.2, hk_.1.1.2⟩)); replace HO715 := zm (Kd.R_mono (ok' := fun k_ => some k_ ≠ (.slice Ao34 t704.length co34 : Value).ownBlock ∧ some k_ ≠ (.slice Ao49 t720.length co49 : Value).ownBlock ∧ some k_ ≠ (.slice Ao60 t730.length co60 : Value).ownBlock ∧ some k_ ≠ (.slice Ao66 t738.length co66 : Value).ownBlock) (Kd.R_keptB ((Kd.R_apart' HO715.out (Kd.R_typed HO719.out) (by decide))) hkp (fun k_ hk_ hs_ => Or.elim hs_ (fun e_ => (hk_.2) e_) (fun e_ => (hk_.1.1.1.2) e_))) (fun k_ hk_ => ⟨hk_.1.1.1.1.1.2, hk_.1.1.1.1.2, hk_.1.1.1.2, hk_.1.1.2⟩)); replace BK716 := zm (blk_kept (zb BK716) hkp (fun hs_ => Or.elim hs_ (fun e_ => (fun e_ => (Kd.R_ne HO719.out BK716.out (by decide)) e_) e_) (fun e_ => (fun e_ => (Kd.R_ne HO722.out BK716.out (by decide)) e_) e_))); replace BK723 := zm (blk_kept (zb BK723) hkp (fun hs_ => Or.elim hs_ (fun e_ => (fun e_ => (Kd.R_ne HO719.out BK723.out (by decide)) e_) e_) (fun e_ => (fun e_ => (Kd.R_ne HO722.out BK723.out (by decide)) e_) e_))); replace HO726 := zm (Kd.R_mono (ok' := fun k_ => some k_ ≠ (.slice Ao35 t707.length co35 : Value).ownBlock ∧ some k_ ≠ (.slice Ao69 t742.length co69 : Value).ownBlock) (Kd.R_keptB ((Kd.R_apart' (Kd.R_apart' HO726.out (Kd.R_typed HO719.out) (by decide)) (Kd.R_typed HO722.out) (by decide))) hkp (fun k_ hk_ hs_ => Or.elim hs_ (fun e_ => (hk_.1.2) e_) (fun e_ => (hk_.2) e_))) (fun k_ hk_ => ⟨hk_.1.1.1.1.2, hk_.1.1.1.2⟩)); replace HO729 := zm (Kd.R_mono (ok' := fun k_ => some k_ ≠ (.slice Ao33 t701.length co33 : Value).ownBlock ∧ some k_ ≠ (.slice Ao38 t710.length co38 : Value).ownBlock ∧ some k_ ≠ (.slice Ao45 t717.length co45 : Value).ownBlock ∧ some k_ ≠ (.slice Ao65 t735.length co65 : Value).ownBlock) (Kd.R_keptB ((Kd.R_apart' HO729.out (Kd.R_typed HO722.out) (by decide))) hkp (fun k_ hk_ hs_ => Or.elim hs_ (fun e_ => (hk_.1.1.2) e_) (fun e_ => (hk_.2) e_))) (fun k_ hk_ => ⟨hk_.1.1.1.1.1.2, hk_.1.1.1.1.2, hk_.1.1.1.2, hk_.1.1.2⟩)); replace HO732 := zm (Kd.R_mono (ok' := fun k_ => some k_ ≠ (.slice Ao34 t704.length co34 : Value).ownBlock ∧ some k_ ≠ (.slice Ao41 t713.length co41 : Value).ownBlock ∧ some k_ ≠ (.slice Ao49 t720.length co49 : Value).ownBlock ∧ some k_ ≠ (.slice Ao66 t738.length co66 : Value).ownBlock) (Kd.R_keptB ((Kd.R_apart' HO732.out (Kd.R_typed HO719.out) (by decide))) hkp (fun k_ hk_ hs_ => Or.elim hs_ (fun e_ => (hk_.2) e_) (fun e_ => (hk_.1.1.2) e_))) (fun k_ hk_ => ⟨hk_.1.1.1.1.1.2, hk_.1.1.1.1.2, hk_.1.1.1.2, hk_.1.1.2⟩)); replace BK733 := zm (blk_kept (zb BK733) hkp (fun hs_ => Or.elim hs_ (fun e_ => (fun e_ => (Kd.R_ne HO719.out BK733.out (by decide)) e_) e_) (fun e_ => (fun e_ => (Kd.R_ne HO722.out BK733.out (by decide)) e_) e_))); replace HO737 := zm (Kd.R_mono (ok' := fun k_ => some k_ ≠ (.slice Ao33 t701.length co33 : Value).ownBlock ∧ some k_ ≠ (.slice Ao38 t710.length co38 : Value).ownBlock ∧ some k_ ≠ (.slice Ao45 t717.length co45 : Value).ownBlock ∧ some k_ ≠ (.slice Ao55 t727.length co55 : Value).ownBlock) (Kd.R_keptB ((Kd.R_apart' HO737.out (Kd.R_typed HO722.out) (by decide))) hkp (fun k_ hk_ hs_ => Or.elim hs_ (fun e_ => (hk_.1.1.2) e_) (fun e_ => (hk_.2) e_))) (fun k_ hk_ => ⟨hk_.1.1.1.1.1.2, hk_.1.1.1.1.2, hk_.1.1.1.2, hk_.1.1.2⟩)); replace HO740 := zm (Kd.R_mono (ok' := fun k_ => some k_ ≠ (.slice Ao34 t704.length co34 : Value).ownBlock ∧ some k_ ≠ (.slice Ao41 t713.length co41 : Value).ownBlock ∧ some k_ ≠ (.slice Ao49 t720.length co49 : Value).ownBlock ∧ some k_ ≠ (.slice Ao60 t730.length co60 : Value).ownBlock) (Kd.R_keptB ((Kd.R_apart' HO740.out (Kd.R_typed HO719.out) (by decide))) hkp (fun k_ hk_ hs_ => Or.elim hs_ (fun e_ => (hk_.2) e_) (fun e_ => (hk_.1.1.2) e_))) (fun k_ hk_ => ⟨hk_.1.1.1.1.1.2, hk_.1.1.1.1.2, hk_.1.1.1.2, hk_.1.1.2⟩)); replace HO744 := zm (Kd.R_mono (ok' := fun k_ => some k_ ≠ (.slice Ao35 t707.length co35 : Value).ownBlock ∧ some k_ ≠ (.slice Ao52 t724.length co52 : Value).ownBlock) (Kd.R_keptB ((Kd.R_apart' (Kd.R_apart' HO744.out (Kd.R_typed HO719.out) (by decide)) (Kd.R_typed HO722.out) (by decide))) hkp (fun k_ hk_ hs_ => Or.elim hs_ (fun e_ => (hk_.1.2) e_) (fun e_ => (hk_.2) e_))) (fun k_ hk_ => ⟨hk_.1.1.1.1.2, hk_.1.1.1.2⟩)); replace HO719 := zm (Kd.R_reok rfl hy0 (fun k_ e_ => HO719.out.1 k_ e_)); replace HO722 := zm (Kd.R_reok rfl hy1 (fun k_ e_ => HO722.out.1 k_ e_)); replace HB := zm (hb); clear hb hkp hy0; (try clear hy1)) | ((with_reducible refine gate_callee (f := 39) rfl ?_); refine zg (some 53) #[.slice Ao52 t724.length co52, .int .i64 t746] Try.func39 ?_; (with_reducible refine (laws_markIntS.calls k (fun k_ => some k_ = (.slice Ao52 t724.length co52 : Value).ownBlock) (.slice Ao52 t724.length co52) t724 t746 t749 t750 w _ zB ?side2 A25.out).mono ?_); (case side2 => exact Kd.R_tight rfl HO726.out); rintro e w72 ⟨rfl, hy0, hb, hkp⟩; refine ⟨_, rfl, ?_⟩; replace BK699 := zm (blk_kept (zb BK699) hkp (fun hs_ => (fun e_ => (Kd.R_ne HO726.out BK699.out (by decide)) e_) hs_)); replace HO703 := zm (Kd.R_mono (ok' := fun k_ => some k_ ≠ (.slice Ao38 t710.length co38 : Value).ownBlock ∧ some k_ ≠ (.slice Ao45 t717.length co45 : Value).ownBlock ∧ some k_ ≠ (.slice Ao55 t727.length co55 : Value).ownBlock ∧ some k_ ≠ (.slice Ao65 t735.length co65 : Value).ownBlock) (Kd.R_keptB ((Kd.R_apart' HO703.out (Kd.R_typed HO726.out) (by decide))) hkp (fun k_ hk_ hs_ => (hk_.2) hs_)) (fun k_ hk_ => ⟨hk_.1.1.1, hk_.1.1.2.1, hk_.1.1.2.2.1, hk_.1.1.2.2.2⟩)); replace HO706 := zm (Kd.R_mono (ok' := fun k_ => some k_ ≠ (.slice Ao41 t713.length co41 : Value).ownBlock ∧ some k_ ≠ (.slice Ao49 t720.length co49 : Value).ownBlock ∧ some k_ ≠ (.slice Ao60 t730.length co60 : Value).ownBlock ∧ some k_ ≠ (.slice Ao66 t738.length co66 : Value).ownBlock) (Kd.R_keptB ((Kd.R_apart' HO706.out (Kd.R_typed HO726.out) (by decide))) hkp (fun k_ hk_ hs_ => (hk_.2) hs_)) (fun k_ hk_ => ⟨hk_.1.1.1, hk_.1.1.2.1, hk_.1.1.2.2.1, hk_.1.1.2.2.2⟩)); replace HO709 := zm (Kd.R_mono (ok' := fun k_ => some k_ ≠ (.slice Ao52 t724.length co52 : Value).ownBlock ∧ some k_ ≠ (.slice Ao69 t742.length co69 : Value).ownBlock) (Kd.R_keptB (HO709.out) hkp (fun k_ hk_ hs_ => (hk_.1) hs_)) (fun k_ hk_ => ⟨hk_.1.1, hk_.1.2⟩)); replace HO712 := zm (Kd.R_mono (ok' := fun k_ => some k_ ≠ (.slice Ao33 t701.length co33 : Value).ownBlock ∧ some k_ ≠ (.slice Ao45 t717.length co45 : Value).ownBlock ∧ some k_ ≠ (.slice Ao55 t727.length co55 : Value).ownBlock ∧ some k_ ≠ (.slice Ao65 t735.length co65 : Value).ownBlock) (Kd.R_keptB ((Kd.R_apart' HO712.out (Kd.R_typed HO726.out) (by decide))) hkp (fun k_ hk_ hs_ => (hk_.2) hs_)) (fun k_ hk_ => ⟨hk_.1.1.1, hk_.1.1.2.1, hk_.1.1.2.2.1, hk_.1.1.2.2.2⟩)); replace HO715 := zm (Kd.R_mono (ok' := fun k_ => some k_ ≠ (.slice Ao34 t704.length co34 : Value).ownBlock ∧ some k_ ≠ (.slice Ao49 t720.length co49 : Value).ownBlock ∧ some k_ ≠ (.slice Ao60 t730.length co60 : Value).ownBlock ∧ some k_ ≠ (.slice Ao66 t738.length co66 : Value).ownBlock) (Kd.R_keptB ((Kd.R_apart' HO715.out (Kd.R_typed HO726.out) (by decide))) hkp (fun k_ hk_ hs_ => (hk_.2) hs_)) (fun k_ hk_ => ⟨hk_.1.1.1, hk_.1.1.2.1, hk_.1.1.2.2.1, hk_.1.1.2.2.2⟩)); replace BK716 := zm (blk_kept (zb BK716) hkp (fun hs_ => (fun e_ => (Kd.R_ne HO726.out BK716.out (by decide)) e_) hs_)); replace HO719 := zm (Kd.R_mono (ok' := fun k_ => some k_ ≠ (.slice Ao33 t701.length co33 : Value).ownBlock ∧ some k_ ≠ (.slice Ao38 t710.length co38 : Value).ownBlock ∧ some k_ ≠ (.slice Ao55 t727.length co55 : Value).ownBlock ∧ some k_ ≠ (.slice Ao65 t735.length co65 : Value).ownBlock) (Kd.R_keptB ((Kd.R_apart' HO719.out (Kd.R_typed HO726.out) (by decide))) hkp (fun k_ hk_ hs_ => (hk_.2) hs_)) (fun k_ hk_ => ⟨hk_.1.1.1.1.1.2, hk_.1.1.1.1.2, hk_.1.1.1.2, hk_.1.1.2⟩)); replace HO722 := zm (Kd.R_mono (ok' := fun k_ => some k_ ≠ (.slice Ao34 t704.length co34 : Value).ownBlock ∧ some k_ ≠ (.slice Ao41 t713.length co41 : Value).ownBlock ∧ some k_ ≠ (.slice Ao60 t730.length co60 : Value).ownBlock ∧ some k_ ≠ (.slice Ao66 t738.length co66 : Value).ownBlock) (Kd.R_keptB ((Kd.R_apart' HO722.out (Kd.R_typed HO726.out) (by decide))) hkp (fun k_ hk_ hs_ => (hk_.2) hs_)) (fun k_ hk_ => ⟨hk_.1.1.1.1.1.2, hk_.1.1.1.1.2, hk_.1.1.1.2, hk_.1.1.2⟩)); replace BK723 := zm (blk_kept (zb BK723) hkp (fun hs_ => (fun e_ => (Kd.R_ne HO726.out BK723.out (by decide)) e_) hs_)); replace HO729 := zm (Kd.R_mono (ok' := fun k_ => some k_ ≠ (.slice Ao33 t701.length co33 : Value).ownBlock ∧ some k_ ≠ (.slice Ao38 t710.length co38 : Value).ownBlock ∧ some k_ ≠ (.slice Ao45 t717.length co45 : Value).ownBlock ∧ some k_ ≠ (.slice Ao65 t735.length co65 : Value).ownBlock) (Kd.R_keptB ((Kd.R_apart' HO729.out (Kd.R_typed HO726.out) (by decide))) hkp (fun k_ hk_ hs_ => (hk_.2) hs_)) (fun k_ hk_ => ⟨hk_.1.1.1, hk_.1.1.2.1, hk_.1.1.2.2.1, hk_.1.1.2.2.2⟩)); replace HO732 := zm (Kd.R_mono (ok' := fun k_ => some k_ ≠ (.slice Ao34 t704.length co34 : Value).ownBlock ∧ some k_ ≠ (.slice Ao41 t713.length co41 : Value).ownBlock ∧ some k_ ≠ (.slice Ao49 t720.length co49 : Value).ownBlock ∧ some k_ ≠ (.slice Ao66 t738.length co66 : Value).ownBlock) (Kd.R_keptB ((Kd.R_apart' HO732.out (Kd.R_typed HO726.out) (by decide))) hkp (fun k_ hk_ hs_ => (hk_.2) hs_)) (fun k_ hk_ => ⟨hk_.1.1.1, hk_.1.1.2.1, hk_.1.1.2.2.1, hk_.1.1.2.2.2⟩)); replace BK733 := zm (blk_kept (zb BK733) hkp (fun hs_ => (fun e_ => (Kd.R_ne HO726.out BK733.out (by decide)) e_) hs_)); replace HO737 := zm (Kd.R_mono (ok' := fun k_ => some k_ ≠ (.slice Ao33 t701.length co33 : Value).ownBlock ∧ some k_ ≠ (.slice Ao38 t710.length co38 : Value).ownBlock ∧ some k_ ≠ (.slice Ao45 t717.length co45 : Value).ownBlock ∧ some k_ ≠ (.slice Ao55 t727.length co55 : Value).ownBlock) (Kd.R_keptB ((Kd.R_apart' HO737.out (Kd.R_typed HO726.out) (by decide))) hkp (fun k_ hk_ hs_ => (hk_.2) hs_)) (fun k_ hk_ => ⟨hk_.1.1.1, hk_.1.1.2.1, hk_.1.1.2.2.1, hk_.1.1.2.2.2⟩)); replace HO740 := zm (Kd.R_mono (ok' := fun k_ => some k_ ≠ (.slice Ao34 t704.length co34 : Value).ownBlock ∧ some k_ ≠ (.slice Ao41 t713.length co41 : Value).ownBlock ∧ some k_ ≠ (.slice Ao49 t720.length co49 : Value).ownBlock ∧ some k_ ≠ (.slice Ao60 t730.length co60 : Value).ownBlock) (Kd.R_keptB ((Kd.R_apart' HO740.out (Kd.R_typed HO726.out) (by decide))) hkp (fun k_ hk_ hs_ => (hk_.2) hs_)) (fun k_ hk_ => ⟨hk_.1.1.1, hk_.1.1.2.1, hk_.1.1.2.2.1, hk_.1.1.2.2.2⟩)); replace HO726 := zm (Kd.R_reok rfl hy0 (fun k_ e_ => HO726.out.1 k_ e_)); replace HO744 := zm (Kd.R_mono (ok' := fun k_ => some k_ ≠ (.slice Ao35 t707.length co35 : Value).ownBlock ∧ some k_ ≠ (.slice Ao52 t724.length co52 : Value).ownBlock) (Kd.R_keptB (HO744.out) hkp (fun k_ hk_ hs_ => (hk_.2) hs_)) (fun k_ hk_ => ⟨hk_.1.1, hk_.1.2⟩)); replace HB := zm (hb); clear hb hkp hy0))
      (try simp only [Act.put, List.setIfInBounds_toArray, List.set_cons_zero, List.set_cons_succ])
      go_cut [61] (fun v61 wc => ∃ (kq : Nat) (x61_25 : Bool), v61 = .bool x61_25 ∧ Aside0 (laws_FnExactSlice.j0 kq l1 x61_25 l0_0 l0_1 t710 t713 t727 t730 = some r) ∧ Aside0 (kq ≤ k) ∧ Aside0 (Kd.R k68 68 wc w.heap.size (fun k_ => some k_ ≠ ((.slice Ao45 t717.length co45) : Value).ownBlock ∧ some k_ ≠ ((.slice Ao55 t727.length co55) : Value).ownBlock) (.slice Ao38 t710.length co38) t710) ∧ Aside0 (Kd.R k72 72 wc w.heap.size (fun k_ => some k_ ≠ ((.slice Ao49 t720.length co49) : Value).ownBlock ∧ some k_ ≠ ((.slice Ao60 t730.length co60) : Value).ownBlock) (.slice Ao41 t713.length co41) t713) ∧ Aside0 (Kd.R k68 68 wc w.heap.size (fun k_ => some k_ ≠ ((.slice Ao38 t710.length co38) : Value).ownBlock ∧ some k_ ≠ ((.slice Ao55 t727.length co55) : Value).ownBlock) (.slice Ao45 t717.length co45) t747) ∧ Aside0 (Kd.R k72 72 wc w.heap.size (fun k_ => some k_ ≠ ((.slice Ao41 t713.length co41) : Value).ownBlock ∧ some k_ ≠ ((.slice Ao60 t730.length co60) : Value).ownBlock) (.slice Ao49 t720.length co49) t748) ∧ Aside0 (Kd.R k68 68 wc w.heap.size (fun k_ => some k_ ≠ ((.slice Ao38 t710.length co38) : Value).ownBlock ∧ some k_ ≠ ((.slice Ao45 t717.length co45) : Value).ownBlock) (.slice Ao55 t727.length co55) t727) ∧ Aside0 (Kd.R k72 72 wc w.heap.size (fun k_ => some k_ ≠ ((.slice Ao41 t713.length co41) : Value).ownBlock ∧ some k_ ≠ ((.slice Ao49 t720.length co49) : Value).ownBlock) (.slice Ao60 t730.length co60) t730) ∧ Aside0 (wc.heap[gb699]? = some (.cells #[(.slice A0_0 l0_0.length c0_0), (.slice A0_1 l0_1.length c0_1)] 25 (0, 0))) ∧ Aside0 (wc.heap[gb716]? = some (.cells #[(.slice Ao38 t710.length co38), (.slice Ao41 t713.length co41)] 32 (0, 0))) ∧ Aside0 (wc.heap[gb723]? = some (.cells #[(.slice Ao45 t717.length co45), (.slice Ao49 t720.length co49)] 32 (0, 0))) ∧ Aside0 (wc.heap[gb733]? = some (.cells #[(.slice Ao55 t727.length co55), (.slice Ao60 t730.length co60)] 32 (0, 0))) ∧ Aside0 (Below w.heap.size w wc))
      case first =>
       have H := HC26.out
       clear HC26
       by_cases c73 : t749 < 0
       ·rw [if_pos c73] at H
        have c73b0 : decide (t749 < 0) = true := decide_eq_true c73
        clear c73
        (first | rw [c73b0] | (simp only [i64_w, i32_w]; rw [c73b0]) | skip)
        rw [HRT.out] at H
        exact absurd H (by cases k <;> simp [laws_FnExactSlice.j0])
       ·rw [if_neg c73] at H
        have c73b0 : decide (t749 < 0) = false := decide_eq_false c73
        clear c73
        (first | rw [c73b0] | (simp only [i64_w, i32_w]; rw [c73b0]) | skip)
        replace H := Option.bind_eq_some_iff.mp H
        obtain ⟨t751, A740, H⟩ := H
        replace H : (laws_FnExactSlice.j0 k l1 (!t751) l0_0 l0_1 t710 t713 t727 t730) = some r := H
        have A74 := zm A740
        clear A740
        have H' := zm H
        clear H
        have hnb75 := NB733_699.out
        have hnc75 := NB699_733.out
        have hnb76 := NB733_716.out
        have hnc76 := NB716_733.out
        have hnb77 := NB733_723.out
        have hnc77 := NB723_733.out
        have hcz78_0 : w72.cell? ⟨gb733, 0, none⟩ = some (.slice Ao55 t727.length co55) := (blk_cell BK733.out 0).trans rfl
        have hcz78_1 : w72.cell? ⟨gb733, 1, none⟩ = some (.slice Ao60 t730.length co60) := (blk_cell BK733.out 1).trans rfl
        have hfz78_0 := blk_frozen BK733.out 0
        have hfz78_1 := blk_frozen BK733.out 1
        have hnb79 := NB716_699.out
        have hnc79 := NB699_716.out
        have hnb80 := NB716_723.out
        have hnc80 := NB723_716.out
        have hcz81_0 : w72.cell? ⟨gb716, 0, none⟩ = some (.slice Ao38 t710.length co38) := (blk_cell BK716.out 0).trans rfl
        have hcz81_1 : w72.cell? ⟨gb716, 1, none⟩ = some (.slice Ao41 t713.length co41) := (blk_cell BK716.out 1).trans rfl
        have hfz81_0 := blk_frozen BK716.out 0
        have hfz81_1 := blk_frozen BK716.out 1
        go_wp2_with (first | (go_at_call 18; (with_reducible refine (laws_eqState.calls k _ _ t727 _ _ t730 _ _ t710 _ _ t713 t751 _ ?side1 ?side2 ?side3 ?side4 ?side5 ?side6 ?side7 ?side8 A74.out).mono ?_); (case side1 => repeat (first | exact (Kd.R_reads' HO729.out).2.2 | (with_reducible refine Kd.C_alloc ?_ _) | (with_reducible refine Kd.C_drewN ?_ _) | (with_reducible refine Kd.C_drew ?_))); (case side2 => exact (Kd.R_reads' HO729.out).2.1); (case side3 => repeat (first | exact (Kd.R_reads' HO732.out).2.2 | (with_reducible refine Kd.C_alloc ?_ _) | (with_reducible refine Kd.C_drewN ?_ _) | (with_reducible refine Kd.C_drew ?_))); (case side4 => exact (Kd.R_reads' HO732.out).2.1); (case side5 => repeat (first | exact (Kd.R_reads' HO712.out).2.2 | (with_reducible refine Kd.C_alloc ?_ _) | (with_reducible refine Kd.C_drewN ?_ _) | (with_reducible refine Kd.C_drew ?_))); (case side6 => exact (Kd.R_reads' HO712.out).2.1); (case side7 => repeat (first | exact (Kd.R_reads' HO715.out).2.2 | (with_reducible refine Kd.C_alloc ?_ _) | (with_reducible refine Kd.C_drewN ?_ _) | (with_reducible refine Kd.C_drew ?_))); (case side8 => exact (Kd.R_reads' HO715.out).2.1); rintro e w82 ⟨rfl, hb⟩; replace HO703 := zm (Kd.R_below (zr HO703) hb); replace HO706 := zm (Kd.R_below (zr HO706) hb); replace HO709 := zm (Kd.R_below (zr HO709) hb); replace HO712 := zm (Kd.R_below (zr HO712) hb); replace HO715 := zm (Kd.R_below (zr HO715) hb); replace HO719 := zm (Kd.R_below (zr HO719) hb); replace HO722 := zm (Kd.R_below (zr HO722) hb); replace HO726 := zm (Kd.R_below (zr HO726) hb); replace HO729 := zm (Kd.R_below (zr HO729) hb); replace HO732 := zm (Kd.R_below (zr HO732) hb); replace HO737 := zm (Kd.R_below (zr HO737) hb); replace HO740 := zm (Kd.R_below (zr HO740) hb); replace HO744 := zm (Kd.R_below (zr HO744) hb); replace BK699 := zm (blk_below (zb BK699) hb); replace BK716 := zm (blk_below (zb BK716) hb); replace BK723 := zm (blk_below (zb BK723) hb); replace BK733 := zm (blk_below (zb BK733) hb); replace HB := zm (below_step zB hb); clear hb))
        go_meet
        case rel => exact ⟨_, (!t751), zF, H', ⟨by first | omega | exact Nat.le_refl _⟩, ⟨by (with_reducible repeat (first | apply Kd.R_alloc | apply Kd.R_drewN | apply Kd.R_drew)); exact Kd.R_mono HO712.out (fun _ hk => ⟨hk.2.1, hk.2.2.1⟩)⟩, ⟨by (with_reducible repeat (first | apply Kd.R_alloc | apply Kd.R_drewN | apply Kd.R_drew)); exact Kd.R_mono HO715.out (fun _ hk => ⟨hk.2.1, hk.2.2.1⟩)⟩, ⟨by (with_reducible repeat (first | apply Kd.R_alloc | apply Kd.R_drewN | apply Kd.R_drew)); exact Kd.R_mono HO719.out (fun _ hk => ⟨hk.2.1, hk.2.2.1⟩)⟩, ⟨by (with_reducible repeat (first | apply Kd.R_alloc | apply Kd.R_drewN | apply Kd.R_drew)); exact Kd.R_mono HO722.out (fun _ hk => ⟨hk.2.1, hk.2.2.1⟩)⟩, ⟨by (with_reducible repeat (first | apply Kd.R_alloc | apply Kd.R_drewN | apply Kd.R_drew)); exact Kd.R_mono HO729.out (fun _ hk => ⟨hk.2.1, hk.2.2.1⟩)⟩, ⟨by (with_reducible repeat (first | apply Kd.R_alloc | apply Kd.R_drewN | apply Kd.R_drew)); exact Kd.R_mono HO732.out (fun _ hk => ⟨hk.2.1, hk.2.2.1⟩)⟩, ⟨zb BK699⟩, ⟨zb BK716⟩, ⟨zb BK723⟩, ⟨zb BK733⟩, ⟨zB⟩⟩
      case rest =>
       clear HC26
       try clear c1
       try clear c2
       try clear p2
       try clear c3
       try clear c3b0
       try clear c3b1
       try clear c4
       try clear c5
       try clear c6
       try clear c6b0
       try clear c7
       try clear c8
       try clear c10
       try clear c13
       try clear c15
       try clear c17
       try clear c18
       try clear c19
       try clear c20
       try clear c23
       try clear c35
       try clear c36
       try clear c37
       try clear c38
       try clear c39
       try clear c46
       try clear c47
       try clear c56
       try clear c57
       try clear c58
       try clear c73
       try clear c73b0
       try clear c75
       try clear c76
       try clear c77
       try clear c79
       try clear c80
       try clear hcz28_0
       try clear hcz28_1
       try clear hcz30_0
       try clear hcz30_1
       try clear hcz40_0
       try clear hcz40_1
       try clear hcz42_0
       try clear hcz42_1
       try clear hcz48_0
       try clear hcz48_1
       try clear hcz51_0
       try clear hcz51_1
       try clear hcz59_0
       try clear hcz59_1
       try clear hcz61_0
       try clear hcz61_1
       try clear hcz70_0
       try clear hcz70_1
       try clear hcz78_0
       try clear hcz78_1
       try clear hcz81_0
       try clear hcz81_1
       try clear hcz8_0
       try clear hcz8_1
       try clear hfz28_0
       try clear hfz28_1
       try clear hfz30_0
       try clear hfz30_1
       try clear hfz40_0
       try clear hfz40_1
       try clear hfz42_0
       try clear hfz42_1
       try clear hfz48_0
       try clear hfz48_1
       try clear hfz51_0
       try clear hfz51_1
       try clear hfz59_0
       try clear hfz59_1
       try clear hfz61_0
       try clear hfz61_1
       try clear hfz70_0
       try clear hfz70_1
       try clear hfz78_0
       try clear hfz78_1
       try clear hfz81_0
       try clear hfz81_1
       try clear hfz8_0
       try clear hfz8_1
       obtain ⟨kq, x61_25, rfl, HA, HJ25, HO_717000, HO_717001, HO_724000, HO_724001, HO_734000, HO_734001, BK699, BK716, BK723, BK733, HB⟩ := hcut
       have hl724000_25 := (Kd.R_reads' HO_724000.out).1
       rw [hl724000_25] at HO_724000
       (try simp only [hl724000_25])
       (try simp only [hl724000_25] at BK699)
       (try simp only [hl724000_25] at BK716)
       (try simp only [hl724000_25] at BK723)
       (try simp only [hl724000_25] at BK733)
       (try simp only [hl724000_25] at HO_717000)
       (try simp only [hl724000_25] at HO_717001)
       (try simp only [hl724000_25] at HO_724001)
       (try simp only [hl724000_25] at HO_734000)
       (try simp only [hl724000_25] at HO_734001)
       have hl724001_25 := (Kd.R_reads' HO_724001.out).1
       rw [hl724001_25] at HO_724001
       (try simp only [hl724001_25])
       (try simp only [hl724001_25] at BK699)
       (try simp only [hl724001_25] at BK716)
       (try simp only [hl724001_25] at BK723)
       (try simp only [hl724001_25] at BK733)
       (try simp only [hl724001_25] at HO_717000)
       (try simp only [hl724001_25] at HO_717001)
       (try simp only [hl724001_25] at HO_724000)
       (try simp only [hl724001_25] at HO_734000)
       (try simp only [hl724001_25] at HO_734001)
       cases kq with
       | zero => exact absurd HA.out (by simp [laws_FnExactSlice.j0])
       | succ kj25 =>
        have H := HA.out
        clear HA
        simp only [laws_FnExactSlice.j0] at H
        by_cases c83 : x61_25 = true
        ·subst c83
         have H1 : (some false) = some r := by rw [if_pos rfl] at H; exact H
         clear H
         have H := H1
         clear H1
         rw [HRT.out] at H
         cases H
        ·replace c83 := Bool.eq_false_iff.mpr c83
         subst c83
         have H1 : ((laws_markState.f kj25 t727 t730 1).bind fun bt752 => ((laws_heldState.f kj25 bt752.2.1 bt752.2.2 1).bind fun t755 => (if t755 < 0 then (some false) else (if t755 = bt752.1 then ((laws_toState.f kj25 l0_0 l0_1).bind fun bt756 => ((laws_toIntS.f kj25 l1).bind fun t762 => ((impl_Slice.f kj25 bt756.1 bt756.2 t762).bind fun bt765 => ((laws_eqState.f kj25 bt765.1 bt765.2 t710 t713).bind fun t772 => (if t772 = true then ((laws_heldState.f kj25 bt752.2.1 bt752.2.2 1).bind fun t773 => (if t773 < 0 then (some false) else (if t773 = bt752.1 then (some true) else (some false)))) else (some false)))))) else (some false))))) = some r := by rw [if_neg (show ¬ (false = true) by decide)] at H; exact H
         clear H
         have H := H1
         clear H1
         replace H := Option.bind_eq_some_iff.mp H
         obtain ⟨⟨t752, t753, t754⟩, A840, H⟩ := H
         replace H : ((laws_heldState.f kj25 t753 t754 1).bind fun t755 => (if t755 < 0 then (some false) else (if t755 = t752 then ((laws_toState.f kj25 l0_0 l0_1).bind fun bt756 => ((laws_toIntS.f kj25 l1).bind fun t762 => ((impl_Slice.f kj25 bt756.1 bt756.2 t762).bind fun bt765 => ((laws_eqState.f kj25 bt765.1 bt765.2 t710 t713).bind fun t772 => (if t772 = true then ((laws_heldState.f kj25 t753 t754 1).bind fun t773 => (if t773 < 0 then (some false) else (if t773 = t752 then (some true) else (some false)))) else (some false)))))) else (some false)))) = some r := H
         have A84 := zm A840
         clear A840
         replace H := Option.bind_eq_some_iff.mp H
         obtain ⟨t755, A850, H⟩ := H
         replace H : (if t755 < 0 then (some false) else (if t755 = t752 then ((laws_toState.f kj25 l0_0 l0_1).bind fun bt756 => ((laws_toIntS.f kj25 l1).bind fun t762 => ((impl_Slice.f kj25 bt756.1 bt756.2 t762).bind fun bt765 => ((laws_eqState.f kj25 bt765.1 bt765.2 t710 t713).bind fun t772 => (if t772 = true then ((laws_heldState.f kj25 t753 t754 1).bind fun t773 => (if t773 < 0 then (some false) else (if t773 = t752 then (some true) else (some false)))) else (some false)))))) else (some false))) = some r := H
         have A85 := zm A850
         clear A850
         by_cases c86 : t755 < 0
         ·rw [if_pos c86] at H
          have c86b0 : decide (t755 < 0) = true := decide_eq_true c86
          clear c86
          rw [HRT.out] at H
          cases H
         ·rw [if_neg c86] at H
          have c86b0 : decide (t755 < 0) = false := decide_eq_false c86
          clear c86
          by_cases c87 : t755 = t752
          ·rw [if_pos c87] at H
           have c87b0 : (t755 == t752) = true := beq_iff_eq.mpr c87
           have c87b1 : (t755 != t752) = false := bne_eq_false_iff_eq.mpr c87
           clear c87
           replace H := Option.bind_eq_some_iff.mp H
           obtain ⟨⟨t756, t759⟩, A880, H⟩ := H
           replace H : ((laws_toIntS.f kj25 l1).bind fun t762 => ((impl_Slice.f kj25 t756 t759 t762).bind fun bt765 => ((laws_eqState.f kj25 bt765.1 bt765.2 t710 t713).bind fun t772 => (if t772 = true then ((laws_heldState.f kj25 t753 t754 1).bind fun t773 => (if t773 < 0 then (some false) else (if t773 = t752 then (some true) else (some false)))) else (some false))))) = some r := H
           have A88 := zm A880
           clear A880
           replace H := Option.bind_eq_some_iff.mp H
           obtain ⟨t762, A890, H⟩ := H
           replace H : ((impl_Slice.f kj25 t756 t759 t762).bind fun bt765 => ((laws_eqState.f kj25 bt765.1 bt765.2 t710 t713).bind fun t772 => (if t772 = true then ((laws_heldState.f kj25 t753 t754 1).bind fun t773 => (if t773 < 0 then (some false) else (if t773 = t752 then (some true) else (some false)))) else (some false)))) = some r := H
           have A89 := zm A890
           clear A890
           replace H := Option.bind_eq_some_iff.mp H
           obtain ⟨⟨t765, t768⟩, A900, H⟩ := H
           replace H : ((laws_eqState.f kj25 t765 t768 t710 t713).bind fun t772 => (if t772 = true then ((laws_heldState.f kj25 t753 t754 1).bind fun t773 => (if t773 < 0 then (some false) else (if t773 = t752 then (some true) else (some false)))) else (some false))) = some r := H
           have A90 := zm A900
           clear A900
           replace H := Option.bind_eq_some_iff.mp H
           obtain ⟨t772, A910, H⟩ := H
           replace H : (if t772 = true then ((laws_heldState.f kj25 t753 t754 1).bind fun t773 => (if t773 < 0 then (some false) else (if t773 = t752 then (some true) else (some false)))) else (some false)) = some r := H
           have A91 := zm A910
           clear A910
           by_cases c92 : t772 = true
           ·subst c92
            have H1 : ((laws_heldState.f kj25 t753 t754 1).bind fun t773 => (if t773 < 0 then (some false) else (if t773 = t752 then (some true) else (some false)))) = some r := by rw [if_pos rfl] at H; exact H
            clear H
            have H := H1
            clear H1
            replace H := Option.bind_eq_some_iff.mp H
            obtain ⟨t773, A930, H⟩ := H
            replace H : (if t773 < 0 then (some false) else (if t773 = t752 then (some true) else (some false))) = some r := H
            have A93 := zm A930
            clear A930
            by_cases c94 : t773 < 0
            ·rw [if_pos c94] at H
             have c94b0 : decide (t773 < 0) = true := decide_eq_true c94
             clear c94
             rw [HRT.out] at H
             cases H
            ·rw [if_neg c94] at H
             have c94b0 : decide (t773 < 0) = false := decide_eq_false c94
             clear c94
             by_cases c95 : t773 = t752
             ·rw [if_pos c95] at H
              have c95b0 : (t773 == t752) = true := beq_iff_eq.mpr c95
              have c95b1 : (t773 != t752) = false := bne_eq_false_iff_eq.mpr c95
              clear c95
              obtain rfl := Option.some.inj H
              have hnb96 := NB733_699.out
              have hnc96 := NB699_733.out
              have hnb97 := NB733_716.out
              have hnc97 := NB716_733.out
              have hnb98 := NB733_723.out
              have hnc98 := NB723_733.out
              have hcz99_0 : wc.cell? ⟨gb733, 0, none⟩ = some (.slice Ao55 t727.length co55) := (blk_cell BK733.out 0).trans rfl
              have hcz99_1 : wc.cell? ⟨gb733, 1, none⟩ = some (.slice Ao60 t730.length co60) := (blk_cell BK733.out 1).trans rfl
              have hfz99_0 := blk_frozen BK733.out 0
              have hfz99_1 := blk_frozen BK733.out 1
              go_wp2_with (first | ((with_reducible refine gate_callee (f := 19) rfl ?_); refine zg (some 64) #[.agg #[.slice Ao55 t727.length co55, .slice Ao60 t730.length co60], .int .i64 1] Try.func19 ?_; (with_reducible refine (laws_markState.calls kj25 (fun k_ => some k_ = (.slice Ao55 t727.length co55 : Value).ownBlock) (.slice Ao55 t727.length co55) t727 (fun k_ => some k_ = (.slice Ao60 t730.length co60 : Value).ownBlock) (.slice Ao60 t730.length co60) t730 1 t752 t753 t754 w _ zB ?side2 ?side3 A84.out).mono ?_); (case side2 => exact Kd.R_tight rfl HO_734000.out); (case side3 => exact Kd.R_tight rfl HO_734001.out); rintro e w100 ⟨rfl, hy0, hy1, hb, hkp⟩; refine ⟨_, rfl, ?_⟩; replace HO_717000 := zm (Kd.R_mono (ok' := fun k_ => some k_ ≠ (.slice Ao45 t747.length co45 : Value).ownBlock ∧ some k_ ≠ (.slice Ao55 t727.length co55 : Value).ownBlock) (Kd.R_keptB ((Kd.R_apart' HO_717000.out (Kd.R_typed HO_734001.out) (by decide))) hkp (fun k_ hk_ hs_ => Or.elim hs_ (fun e_ => (hk_.1.2) e_) (fun e_ => (hk_.2) e_))) (fun k_ hk_ => ⟨hk_.1.1.1, hk_.1.1.2⟩)); replace HO_717001 := zm (Kd.R_mono (ok' := fun k_ => some k_ ≠ (.slice Ao49 t748.length co49 : Value).ownBlock ∧ some k_ ≠ (.slice Ao60 t730.length co60 : Value).ownBlock) (Kd.R_keptB ((Kd.R_apart' HO_717001.out (Kd.R_typed HO_734000.out) (by decide))) hkp (fun k_ hk_ hs_ => Or.elim hs_ (fun e_ => (hk_.2) e_) (fun e_ => (hk_.1.2) e_))) (fun k_ hk_ => ⟨hk_.1.1.1, hk_.1.1.2⟩)); replace HO_724000 := zm (Kd.R_mono (ok' := fun k_ => some k_ ≠ (.slice Ao38 t710.length co38 : Value).ownBlock ∧ some k_ ≠ (.slice Ao55 t727.length co55 : Value).ownBlock) (Kd.R_keptB ((Kd.R_apart' HO_724000.out (Kd.R_typed HO_734001.out) (by decide))) hkp (fun k_ hk_ hs_ => Or.elim hs_ (fun e_ => (hk_.1.2) e_) (fun e_ => (hk_.2) e_))) (fun k_ hk_ => ⟨hk_.1.1.1, hk_.1.1.2⟩)); replace HO_724001 := zm (Kd.R_mono (ok' := fun k_ => some k_ ≠ (.slice Ao41 t713.length co41 : Value).ownBlock ∧ some k_ ≠ (.slice Ao60 t730.length co60 : Value).ownBlock) (Kd.R_keptB ((Kd.R_apart' HO_724001.out (Kd.R_typed HO_734000.out) (by decide))) hkp (fun k_ hk_ hs_ => Or.elim hs_ (fun e_ => (hk_.2) e_) (fun e_ => (hk_.1.2) e_))) (fun k_ hk_ => ⟨hk_.1.1.1, hk_.1.1.2⟩)); replace BK699 := zm (blk_kept (zb BK699) hkp (fun hs_ => Or.elim hs_ (fun e_ => (fun e_ => (Kd.R_ne HO_734000.out BK699.out (by decide)) e_) e_) (fun e_ => (fun e_ => (Kd.R_ne HO_734001.out BK699.out (by decide)) e_) e_))); replace BK716 := zm (blk_kept (zb BK716) hkp (fun hs_ => Or.elim hs_ (fun e_ => (fun e_ => (Kd.R_ne HO_734000.out BK716.out (by decide)) e_) e_) (fun e_ => (fun e_ => (Kd.R_ne HO_734001.out BK716.out (by decide)) e_) e_))); replace BK723 := zm (blk_kept (zb BK723) hkp (fun hs_ => Or.elim hs_ (fun e_ => (fun e_ => (Kd.R_ne HO_734000.out BK723.out (by decide)) e_) e_) (fun e_ => (fun e_ => (Kd.R_ne HO_734001.out BK723.out (by decide)) e_) e_))); replace BK733 := zm (blk_kept (zb BK733) hkp (fun hs_ => Or.elim hs_ (fun e_ => (fun e_ => (Kd.R_ne HO_734000.out BK733.out (by decide)) e_) e_) (fun e_ => (fun e_ => (Kd.R_ne HO_734001.out BK733.out (by decide)) e_) e_))); replace HO_734000 := zm (Kd.R_reok rfl hy0 (fun k_ e_ => HO_734000.out.1 k_ e_)); replace HO_734001 := zm (Kd.R_reok rfl hy1 (fun k_ e_ => HO_734001.out.1 k_ e_)); replace HB := zm (hb); clear hb hkp hy0; (try clear hy1); have hcz101_0 : w100.cell? ⟨gb733, 0, none⟩ = some (.slice Ao55 t727.length co55) := (blk_cell BK733.out 0).trans rfl; have hcz101_1 : w100.cell? ⟨gb733, 1, none⟩ = some (.slice Ao60 t730.length co60) := (blk_cell BK733.out 1).trans rfl; have hfz101_0 := blk_frozen BK733.out 0; have hfz101_1 := blk_frozen BK733.out 1) | ((with_reducible refine gate_callee (f := 26) rfl ?_); refine goesL_ (some 67) rfl rfl Try.func26 (by kernel_rfl) rfl #[.agg #[.slice Ao55 t753.length co55, .slice Ao60 t754.length co60], .int .i64 1] rfl (by (try simp only [List.map_toArray, List.map_cons, List.map_nil]); first | done | (rw [show t753.length = t727.length from (Kd.R_reads' HO_734000.out).1.symm, show t754.length = t730.length from (Kd.R_reads' HO_734001.out).1.symm] <;> rfl) | rfl | (simp only [List.length_drop, List.length_take]; rfl)) ?_; (with_reducible refine (laws_heldState.calls kj25 _ _ t753 _ _ t754 1 t755 _ ?side1 ?side2 ?side3 ?side4 A85.out).mono ?_); (case side1 => repeat (first | exact (Kd.R_reads' HO_734000.out).2.2 | (with_reducible refine Kd.C_alloc ?_ _) | (with_reducible refine Kd.C_drewN ?_ _) | (with_reducible refine Kd.C_drew ?_))); (case side2 => rw [show t753.length = t727.length from (Kd.R_reads' HO_734000.out).1.symm]; exact (Kd.R_reads' HO_734000.out).2.1); (case side3 => repeat (first | exact (Kd.R_reads' HO_734001.out).2.2 | (with_reducible refine Kd.C_alloc ?_ _) | (with_reducible refine Kd.C_drewN ?_ _) | (with_reducible refine Kd.C_drew ?_))); (case side4 => rw [show t754.length = t730.length from (Kd.R_reads' HO_734001.out).1.symm]; exact (Kd.R_reads' HO_734001.out).2.1); rintro e w102 ⟨rfl, hb⟩; refine ⟨_, rfl, ?_⟩; replace HO_717000 := zm (Kd.R_below (zr HO_717000) hb); replace HO_717001 := zm (Kd.R_below (zr HO_717001) hb); replace HO_724000 := zm (Kd.R_below (zr HO_724000) hb); replace HO_724001 := zm (Kd.R_below (zr HO_724001) hb); replace HO_734000 := zm (Kd.R_below (zr HO_734000) hb); replace HO_734001 := zm (Kd.R_below (zr HO_734001) hb); replace BK699 := zm (blk_below (zb BK699) hb); replace BK716 := zm (blk_below (zb BK716) hb); replace BK723 := zm (blk_below (zb BK723) hb); replace BK733 := zm (blk_below (zb BK733) hb); replace HB := zm (below_step zB hb); clear hb; have hnb103 := NB699_716.out; have hnc103 := NB716_699.out; have hnb104 := NB699_723.out; have hnc104 := NB723_699.out; have hcz105_0 : w102.cell? ⟨gb699, 0, none⟩ = some (.slice A0_0 l0_0.length c0_0) := (blk_cell BK699.out 0).trans rfl; have hcz105_1 : w102.cell? ⟨gb699, 1, none⟩ = some (.slice A0_1 l0_1.length c0_1) := (blk_cell BK699.out 1).trans rfl; have hfz105_0 := blk_frozen BK699.out 0; have hfz105_1 := blk_frozen BK699.out 1) | ((with_reducible refine gate_callee (f := 15) rfl ?_); refine zg (some 74) #[.agg #[.slice A0_0 l0_0.length c0_0, .slice A0_1 l0_1.length c0_1]] Try.func15 ?_; (with_reducible refine (laws_toState.calls kj25 _ _ l0_0 _ _ l0_1 t756 t759 _ (zk (Kd.C_below HR0_0.out HB.out)) HC0_0.out (zk (Kd.C_below HR0_1.out HB.out)) HC0_1.out A88.out).mono ?_); rintro e w106 ⟨v757, v760, rfl, ho0, ho1, hb⟩; refine ⟨_, rfl, ?_⟩; have HO758 := zm (Kd.R_lower (Kd.R_new' (Kd.R_new' (Kd.R_new' ho0 (Kd.R_lt (zr HO_717000))) (Kd.R_lt (zr HO_724000))) (Kd.R_lt (zr HO_734000))) (below_size zB)); replace HO_717000 := zm (Kd.R_elder' (zr HO_717000) (Kd.R_base ho0) hb); replace HO_724000 := zm (Kd.R_elder' (zr HO_724000) (Kd.R_base ho0) hb); replace HO_734000 := zm (Kd.R_elder' (zr HO_734000) (Kd.R_base ho0) hb); have HO761 := zm (Kd.R_lower (Kd.R_new' (Kd.R_new' (Kd.R_new' ho1 (Kd.R_lt (zr HO_717001))) (Kd.R_lt (zr HO_724001))) (Kd.R_lt (zr HO_734001))) (below_size zB)); replace HO_717001 := zm (Kd.R_elder' (zr HO_717001) (Kd.R_base ho1) hb); replace HO_724001 := zm (Kd.R_elder' (zr HO_724001) (Kd.R_base ho1) hb); replace HO_734001 := zm (Kd.R_elder' (zr HO_734001) (Kd.R_base ho1) hb); replace BK699 := zm (blk_below (zb BK699) hb); replace BK716 := zm (blk_below (zb BK716) hb); replace BK723 := zm (blk_below (zb BK723) hb); replace BK733 := zm (blk_below (zb BK733) hb); replace HB := zm (below_step zB hb); clear hb ho0 ho1) | ((with_reducible refine gate_callee (f := 36) rfl ?_); refine zg (some 76) #[.slice A1 l1.length c1] Try.func36 ?_; (with_reducible refine (laws_toIntS.calls kj25 _ _ l1 t762 _ (zk (Kd.C_below HR1.out HB.out)) HC1.out A89.out).mono ?_); rintro e w107 ⟨v763, rfl, ho0, hb⟩; refine ⟨_, rfl, ?_⟩; replace HO_717000 := zm (Kd.R_below (zr HO_717000) hb); replace HO_717001 := zm (Kd.R_below (zr HO_717001) hb); replace HO_724000 := zm (Kd.R_below (zr HO_724000) hb); replace HO_724001 := zm (Kd.R_below (zr HO_724001) hb); replace HO_734000 := zm (Kd.R_below (zr HO_734000) hb); replace HO_734001 := zm (Kd.R_below (zr HO_734001) hb); replace HO758 := zm (Kd.R_below (zr HO758) hb); replace HO761 := zm (Kd.R_below (zr HO761) hb); have HO764 := zm (Kd.R_lower ho0 (below_size zB)); replace BK699 := zm (blk_below (zb BK699) hb); replace BK716 := zm (blk_below (zb BK716) hb); replace BK723 := zm (blk_below (zb BK723) hb); replace BK733 := zm (blk_below (zb BK733) hb); replace HB := zm (below_step zB hb); clear hb ho0; obtain ⟨Ao108, co108, eo108⟩ := Kd.R_slice HO758.out; subst eo108; obtain ⟨Ao109, co109, eo109⟩ := Kd.R_slice HO761.out; subst eo109; obtain ⟨Ao110, co110, eo110⟩ := Kd.R_slice HO764.out; subst eo110) | ((with_reducible refine gate_callee (f := 37) rfl ?_); refine zg (some 77) #[.agg #[.slice Ao108 t756.length co108, .slice Ao109 t759.length co109], .slice Ao110 t762.length co110] Try.func37 ?_; (with_reducible refine (impl_Slice.calls kj25 _ _ t756 _ _ t759 _ _ t762 t765 t768 _ ?side1 ?side2 ?side3 ?side4 ?side5 ?side6 A90.out).mono ?_); (case side1 => repeat (first | exact (Kd.R_reads' HO758.out).2.2 | (with_reducible refine Kd.C_alloc ?_ _) | (with_reducible refine Kd.C_drewN ?_ _) | (with_reducible refine Kd.C_drew ?_))); (case side2 => exact (Kd.R_reads' HO758.out).2.1); (case side3 => repeat (first | exact (Kd.R_reads' HO761.out).2.2 | (with_reducible refine Kd.C_alloc ?_ _) | (with_reducible refine Kd.C_drewN ?_ _) | (with_reducible refine Kd.C_drew ?_))); (case side4 => exact (Kd.R_reads' HO761.out).2.1); (case side5 => repeat (first | exact (Kd.R_reads' HO764.out).2.2 | (with_reducible refine Kd.C_alloc ?_ _) | (with_reducible refine Kd.C_drewN ?_ _) | (with_reducible refine Kd.C_drew ?_))); (case side6 => exact (Kd.R_reads' HO764.out).2.1); rintro e w111 ⟨v766, v769, rfl, ho0, ho1, hb⟩; refine ⟨_, rfl, ?_⟩; replace HO764 := zm (Kd.R_below (zr HO764) hb); have HO767 := zm (Kd.R_lower (Kd.R_new' (Kd.R_new' (Kd.R_new' (Kd.R_new' ho0 (Kd.R_lt (zr HO_717000))) (Kd.R_lt (zr HO_724000))) (Kd.R_lt (zr HO_734000))) (Kd.R_lt (zr HO758))) (below_size zB)); replace HO_717000 := zm (Kd.R_elder' (zr HO_717000) (Kd.R_base ho0) hb); replace HO_724000 := zm (Kd.R_elder' (zr HO_724000) (Kd.R_base ho0) hb); replace HO_734000 := zm (Kd.R_elder' (zr HO_734000) (Kd.R_base ho0) hb); replace HO758 := zm (Kd.R_elder' (zr HO758) (Kd.R_base ho0) hb); have HO770 := zm (Kd.R_lower (Kd.R_new' (Kd.R_new' (Kd.R_new' (Kd.R_new' ho1 (Kd.R_lt (zr HO_717001))) (Kd.R_lt (zr HO_724001))) (Kd.R_lt (zr HO_734001))) (Kd.R_lt (zr HO761))) (below_size zB)); replace HO_717001 := zm (Kd.R_elder' (zr HO_717001) (Kd.R_base ho1) hb); replace HO_724001 := zm (Kd.R_elder' (zr HO_724001) (Kd.R_base ho1) hb); replace HO_734001 := zm (Kd.R_elder' (zr HO_734001) (Kd.R_base ho1) hb); replace HO761 := zm (Kd.R_elder' (zr HO761) (Kd.R_base ho1) hb); replace BK699 := zm (blk_below (zb BK699) hb); replace BK716 := zm (blk_below (zb BK716) hb); replace BK723 := zm (blk_below (zb BK723) hb); replace BK733 := zm (blk_below (zb BK733) hb); replace HB := zm (below_step zB hb); clear hb ho0 ho1) | ((with_reducible refine gate_dst (N := 13) rfl ?_); refine zbox 13 #[.slice none 0 0, .slice none 0 0] 32 ?_; intro gb771 hg w112 hbox hb; replace HO_717000 := zm (Kd.R_below (zr HO_717000) hb); replace HO_717001 := zm (Kd.R_below (zr HO_717001) hb); replace HO_724000 := zm (Kd.R_below (zr HO_724000) hb); replace HO_724001 := zm (Kd.R_below (zr HO_724001) hb); replace HO_734000 := zm (Kd.R_below (zr HO_734000) hb); replace HO_734001 := zm (Kd.R_below (zr HO_734001) hb); replace HO758 := zm (Kd.R_below (zr HO758) hb); replace HO761 := zm (Kd.R_below (zr HO761) hb); replace HO764 := zm (Kd.R_below (zr HO764) hb); replace HO767 := zm (Kd.R_below (zr HO767) hb); replace HO770 := zm (Kd.R_below (zr HO770) hb); have BK771 := zm (hbox); have GW771 := zge w hg zB; have GE771 := zge w hg zB; replace HB := zm (below_step zB hb); have NB699_771 := zlt hg (zb BK699); have NB771_699 := zgt hg (zb BK699); replace BK699 := zm (blk_below (zb BK699) hb); have NB716_771 := zlt hg (zb BK716); have NB771_716 := zgt hg (zb BK716); replace BK716 := zm (blk_below (zb BK716) hb); have NB723_771 := zlt hg (zb BK723); have NB771_723 := zgt hg (zb BK723); replace BK723 := zm (blk_below (zb BK723) hb); have NB733_771 := zlt hg (zb BK733); have NB771_733 := zgt hg (zb BK733); replace BK733 := zm (blk_below (zb BK733) hb); clear hb hbox hg; obtain ⟨Ao113, co113, eo113⟩ := Kd.R_slice HO767.out; subst eo113; have hnb114 := NB771_699.out; have hnc114 := NB699_771.out; have hnb115 := NB771_716.out; have hnc115 := NB716_771.out; have hnb116 := NB771_723.out; have hnc116 := NB723_771.out; have hnb117 := NB771_733.out; have hnc117 := NB733_771.out; have hcz118_0 : w112.cell? ⟨gb771, 0, none⟩ = some (.slice none 0 0) := (blk_cell BK771.out 0).trans rfl; have hcz118_1 : w112.cell? ⟨gb771, 1, none⟩ = some (.slice none 0 0) := (blk_cell BK771.out 1).trans rfl; have hfz118_0 := blk_frozen BK771.out 0; have hfz118_1 := blk_frozen BK771.out 1; obtain ⟨Ao119, co119, eo119⟩ := Kd.R_slice HO770.out; subst eo119; have hnb120 := NB716_723.out; have hnc120 := NB723_716.out; have hcz121_0 : w112.cell? ⟨gb716, 0, none⟩ = some (.slice Ao38 t710.length co38) := (blk_cell BK716.out 0).trans rfl; have hcz121_1 : w112.cell? ⟨gb716, 1, none⟩ = some (.slice Ao41 t713.length co41) := (blk_cell BK716.out 1).trans rfl; have hfz121_0 := blk_frozen BK716.out 0; have hfz121_1 := blk_frozen BK716.out 1) | ((with_reducible refine gate_callee (f := 18) rfl ?_); refine zg (some 80) #[.agg #[.slice Ao113 t765.length co113, .slice Ao119 t768.length co119], .agg #[.slice Ao38 t710.length co38, .slice Ao41 t713.length co41]] Try.func18 ?_; (with_reducible refine (laws_eqState.calls kj25 _ _ t765 _ _ t768 _ _ t710 _ _ t713 true _ ?side1 ?side2 ?side3 ?side4 ?side5 ?side6 ?side7 ?side8 A91.out).mono ?_); (case side1 => refine (Kd.R_reads' (e := 68) (base := w.heap.size) (ok := fun k_ => ((((True ∧ some k_ ≠ (.slice Ao38 t710.length co38 : Value).ownBlock) ∧ some k_ ≠ (.slice Ao45 t747.length co45 : Value).ownBlock) ∧ some k_ ≠ (.slice Ao55 t727.length co55 : Value).ownBlock) ∧ some k_ ≠ (.slice Ao108 t756.length co108 : Value).ownBlock)) (n := t765.length) (c := co113) ?_).2.2; exact (zrs <| (Kd.R_mono (zfr (zfr (Kd.R_types HO767.out BK771.out (by decide)))) (fun _ h_ => h_.1)))); (case side2 => exact (Kd.R_reads' HO767.out).2.1); (case side3 => refine (Kd.R_reads' (e := 72) (base := w.heap.size) (ok := fun k_ => ((((True ∧ some k_ ≠ (.slice Ao41 t713.length co41 : Value).ownBlock) ∧ some k_ ≠ (.slice Ao49 t748.length co49 : Value).ownBlock) ∧ some k_ ≠ (.slice Ao60 t730.length co60 : Value).ownBlock) ∧ some k_ ≠ (.slice Ao109 t759.length co109 : Value).ownBlock)) (n := t768.length) (c := co119) ?_).2.2; exact (zrs <| (Kd.R_mono (zfr (zfr (Kd.R_types HO770.out BK771.out (by decide)))) (fun _ h_ => h_.1)))); (case side4 => exact (Kd.R_reads' HO770.out).2.1); (case side5 => refine (Kd.R_reads' (e := 68) (base := w.heap.size) (ok := fun k_ => (((some k_ ≠ (.slice Ao45 t747.length co45 : Value).ownBlock ∧ some k_ ≠ (.slice Ao55 t727.length co55 : Value).ownBlock) ∧ some k_ ≠ (.slice Ao108 t756.length co108 : Value).ownBlock) ∧ some k_ ≠ (.slice Ao113 t765.length co113 : Value).ownBlock)) (n := t710.length) (c := co38) ?_).2.2; exact (zrs <| (Kd.R_mono (zfr (zfr (Kd.R_types HO_717000.out BK771.out (by decide)))) (fun _ h_ => h_.1)))); (case side6 => exact (Kd.R_reads' HO_717000.out).2.1); (case side7 => refine (Kd.R_reads' (e := 72) (base := w.heap.size) (ok := fun k_ => (((some k_ ≠ (.slice Ao49 t748.length co49 : Value).ownBlock ∧ some k_ ≠ (.slice Ao60 t730.length co60 : Value).ownBlock) ∧ some k_ ≠ (.slice Ao109 t759.length co109 : Value).ownBlock) ∧ some k_ ≠ (.slice Ao119 t768.length co119 : Value).ownBlock)) (n := t713.length) (c := co41) ?_).2.2; exact (zrs <| (Kd.R_mono (zfr (zfr (Kd.R_types HO_717001.out BK771.out (by decide)))) (fun _ h_ => h_.1)))); (case side8 => exact (Kd.R_reads' HO_717001.out).2.1); rintro e w122 ⟨rfl, hb⟩; refine ⟨_, rfl, ?_⟩; replace HO_717000 := zm (Kd.R_below (zrs <| (Kd.R_mono (zfr (zfr (Kd.R_types HO_717000.out BK771.out (by decide)))) (fun _ h_ => h_.1))) hb); replace HO_717001 := zm (Kd.R_below (zrs <| (Kd.R_mono (zfr (zfr (Kd.R_types HO_717001.out BK771.out (by decide)))) (fun _ h_ => h_.1))) hb); replace HO_724000 := zm (Kd.R_below (zrs <| (Kd.R_mono (zfr (zfr (Kd.R_types HO_724000.out BK771.out (by decide)))) (fun _ h_ => h_.1))) hb); replace HO_724001 := zm (Kd.R_below (zrs <| (Kd.R_mono (zfr (zfr (Kd.R_types HO_724001.out BK771.out (by decide)))) (fun _ h_ => h_.1))) hb); replace HO_734000 := zm (Kd.R_below (zrs <| (Kd.R_mono (zfr (zfr (Kd.R_types HO_734000.out BK771.out (by decide)))) (fun _ h_ => h_.1))) hb); replace HO_734001 := zm (Kd.R_below (zrs <| (Kd.R_mono (zfr (zfr (Kd.R_types HO_734001.out BK771.out (by decide)))) (fun _ h_ => h_.1))) hb); replace HO758 := zm (Kd.R_below (zrs <| (Kd.R_mono (zfr (zfr (Kd.R_types HO758.out BK771.out (by decide)))) (fun _ h_ => h_.1))) hb); replace HO761 := zm (Kd.R_below (zrs <| (Kd.R_mono (zfr (zfr (Kd.R_types HO761.out BK771.out (by decide)))) (fun _ h_ => h_.1))) hb); replace HO764 := zm (Kd.R_below (zrs <| (Kd.R_mono (zfr (zfr (Kd.R_types HO764.out BK771.out (by decide)))) (fun _ h_ => h_.1))) hb); replace HO767 := zm (Kd.R_below (zrs <| (Kd.R_mono (zfr (zfr (Kd.R_types HO767.out BK771.out (by decide)))) (fun _ h_ => h_.1))) hb); replace HO770 := zm (Kd.R_below (zrs <| (Kd.R_mono (zfr (zfr (Kd.R_types HO770.out BK771.out (by decide)))) (fun _ h_ => h_.1))) hb); replace BK699 := zm (blk_below (g := gb699) (o := .cells #[.slice A0_0 l0_0.length c0_0, .slice A0_1 l0_1.length c0_1] 25 (0, 0)) (zfar (zfar (zb BK699) NB699_771) NB699_771) hb); replace BK716 := zm (blk_below (g := gb716) (o := .cells #[.slice Ao38 t710.length co38, .slice Ao41 t713.length co41] 32 (0, 0)) (zfar (zfar (zb BK716) NB716_771) NB716_771) hb); replace BK723 := zm (blk_below (g := gb723) (o := .cells #[.slice Ao45 t747.length co45, .slice Ao49 t748.length co49] 32 (0, 0)) (zfar (zfar (zb BK723) NB723_771) NB723_771) hb); replace BK733 := zm (blk_below (g := gb733) (o := .cells #[.slice Ao55 t727.length co55, .slice Ao60 t730.length co60] 32 (0, 0)) (zfar (zfar (zb BK733) NB733_771) NB733_771) hb); replace BK771 := zm (blk_below (g := gb771) (o := .cells #[.slice Ao113 t765.length co113, .slice Ao119 t768.length co119] 32 (0, 0)) (zput (zput (zb BK771) 0) 1) hb); replace HB := zm (below_step zB hb); clear hb; have hcz123_0 : w122.cell? ⟨gb733, 0, none⟩ = some (.slice Ao55 t727.length co55) := (blk_cell BK733.out 0).trans rfl; have hcz123_1 : w122.cell? ⟨gb733, 1, none⟩ = some (.slice Ao60 t730.length co60) := (blk_cell BK733.out 1).trans rfl; have hfz123_0 := blk_frozen BK733.out 0; have hfz123_1 := blk_frozen BK733.out 1) | ((with_reducible refine gate_callee (f := 26) rfl ?_); refine goesL_ (some 84) rfl rfl Try.func26 (by kernel_rfl) rfl #[.agg #[.slice Ao55 t753.length co55, .slice Ao60 t754.length co60], .int .i64 1] rfl (by (try simp only [List.map_toArray, List.map_cons, List.map_nil]); first | done | (rw [show t753.length = t727.length from (Kd.R_reads' HO_734000.out).1.symm, show t754.length = t730.length from (Kd.R_reads' HO_734001.out).1.symm] <;> rfl) | rfl | (simp only [List.length_drop, List.length_take]; rfl)) ?_; (with_reducible refine (laws_heldState.calls kj25 _ _ t753 _ _ t754 1 t773 _ ?side1 ?side2 ?side3 ?side4 A93.out).mono ?_); (case side1 => repeat (first | exact (Kd.R_reads' HO_734000.out).2.2 | (with_reducible refine Kd.C_alloc ?_ _) | (with_reducible refine Kd.C_drewN ?_ _) | (with_reducible refine Kd.C_drew ?_))); (case side2 => rw [show t753.length = t727.length from (Kd.R_reads' HO_734000.out).1.symm]; exact (Kd.R_reads' HO_734000.out).2.1); (case side3 => repeat (first | exact (Kd.R_reads' HO_734001.out).2.2 | (with_reducible refine Kd.C_alloc ?_ _) | (with_reducible refine Kd.C_drewN ?_ _) | (with_reducible refine Kd.C_drew ?_))); (case side4 => rw [show t754.length = t730.length from (Kd.R_reads' HO_734001.out).1.symm]; exact (Kd.R_reads' HO_734001.out).2.1); rintro e w124 ⟨rfl, hb⟩; refine ⟨_, rfl, ?_⟩; replace HO_717000 := zm (Kd.R_below (zr HO_717000) hb); replace HO_717001 := zm (Kd.R_below (zr HO_717001) hb); replace HO_724000 := zm (Kd.R_below (zr HO_724000) hb); replace HO_724001 := zm (Kd.R_below (zr HO_724001) hb); replace HO_734000 := zm (Kd.R_below (zr HO_734000) hb); replace HO_734001 := zm (Kd.R_below (zr HO_734001) hb); replace HO758 := zm (Kd.R_below (zr HO758) hb); replace HO761 := zm (Kd.R_below (zr HO761) hb); replace HO764 := zm (Kd.R_below (zr HO764) hb); replace HO767 := zm (Kd.R_below (zr HO767) hb); replace HO770 := zm (Kd.R_below (zr HO770) hb); replace BK699 := zm (blk_below (zb BK699) hb); replace BK716 := zm (blk_below (zb BK716) hb); replace BK723 := zm (blk_below (zb BK723) hb); replace BK733 := zm (blk_below (zb BK733) hb); replace BK771 := zm (blk_below (zb BK771) hb); replace HB := zm (below_step zB hb); clear hb))
              go_ret
              exact ⟨zE, zB⟩
             ·rw [if_neg c95] at H
              have c95b0 : (t773 == t752) = false := beq_eq_false_iff_ne.mpr c95
              have c95b1 : (t773 != t752) = true := bne_iff_ne.mpr c95
              rw [HRT.out] at H
              cases H
           ·replace c92 := Bool.eq_false_iff.mpr c92
            subst c92
            have H1 : (some false) = some r := by rw [if_neg (show ¬ (false = true) by decide)] at H; exact H
            clear H
            have H := H1
            clear H1
            rw [HRT.out] at H
            cases H
          ·rw [if_neg c87] at H
           have c87b0 : (t755 == t752) = false := beq_eq_false_iff_ne.mpr c87
           have c87b1 : (t755 != t752) = true := bne_iff_ne.mpr c87
           rw [HRT.out] at H
           cases H
     ·replace c23 := Bool.eq_false_iff.mpr c23
      subst c23
      have H1 : (some false) = some r := by rw [if_neg (show ¬ (false = true) by decide)] at H; exact H
      clear H
      have H := H1
      clear H1
      rw [HRT.out] at H
      cases H
    ·replace c20 := Bool.eq_false_iff.mpr c20
     subst c20
     have H1 : (some false) = some r := by rw [if_neg (show ¬ (false = true) by decide)] at H; exact H
     clear H
     have H := H1
     clear H1
     rw [HRT.out] at H
     cases H
   ·replace c17 := Bool.eq_false_iff.mpr c17
    subst c17
    have H1 : (some false) = some r := by rw [if_neg (show ¬ (false = true) by decide)] at H; exact H
    clear H
    have H := H1
    clear H1
    rw [HRT.out] at H
    cases H

def laws_FnExactSlice.Pure : Prop := ∀ (l0_0 : List (S94)) (l0_1 : List (S98)) (l1 : List Int), l0_0.length ≤ maxLen → l0_0.length * 56 ≤ 140737488351232 → (∀ x ∈ l0_0, ((Lit.int .i64 x.f0).wf = true ∧ ((Lit.int .i64 x.f1.f0).wf = true ∧ ((Lit.int .i64 x.f1.f1).wf = true ∧ ((Lit.int .i64 x.f1.f2).wf = true ∧ ((Lit.int .i64 x.f1.f3).wf = true ∧ x.f1.f4.size ≤ 140737488351232)))))) → l0_1.length ≤ maxLen → l0_1.length * 16 ≤ 140737488351232 → (∀ x ∈ l0_1, ((Lit.int .i64 x.f0).wf = true ∧ (Lit.int .i64 x.f1).wf = true)) → l1.length ≤ maxLen → l1.length * 8 ≤ 140737488351232 → (∀ x ∈ l1, (Lit.int .i64 x).wf = true) → ∃ k, laws_FnExactSlice.f k l0_0 l0_1 l1 = some true

end Go.Proofs.Ytgapdegniepjiaa.P
