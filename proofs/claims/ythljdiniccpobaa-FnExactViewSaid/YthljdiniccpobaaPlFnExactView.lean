-- by a program of this session, for this seat
import Derived.Test.YthljdiniccpobaaZ
import Derived.Test.YthljdiniccpobaaP0
import Derived.Test.YthljdiniccpobaaPab
import Derived.Test.YthljdiniccpobaaPac
import Derived.Test.YthljdiniccpobaaPad
import Derived.Test.YthljdiniccpobaaPak
import Derived.Test.YthljdiniccpobaaPal
import Derived.Test.YthljdiniccpobaaPam
namespace Go.Proofs.Ythljdiniccpobaa.P
open Go.RowKit Go.Proofs.YthljdiniccpobaaW.PrintWords Go.Proofs.YthljdiniccpobaaW.PrintLast Go.Proofs.YthljdiniccpobaaW.PrintMore Go.Proofs.Ythljdiniccpobaa.Z
attribute [local go_sem] max2_int min2_int max_two min_two max_three min_three max_four min_four   -- for this text's walks alone
set_option linter.unusedVariables false
set_option linter.unusedSimpArgs false

/-! ### laws_FnExactView: function 13 -/
def laws_FnExactView.j0 : Nat → List (S84) → List (S84) → Bool → List (S105) → List (S108) → Option (Bool)
 | 0, _, _, _, _, _ => none
 | k + 1, x4, x6, x42, x652000, x652001 => if x42 = true then (some false) else ((laws_markItemS.f k x6 1).bind fun bt684 => ((laws_heldItemS.f k bt684.2 1).bind fun t686 => (if t686 < 0 then (some false) else (if t686 = bt684.1 then ((laws_toState.f k x652000 x652001).bind fun bt687 => ((impl_View.f k bt687.1 bt687.2).bind fun t693 => ((laws_eqItemS.f k t693 x4).bind fun t696 => (if t696 = true then ((laws_heldItemS.f k bt684.2 1).bind fun t697 => (if t697 < 0 then (some false) else (if t697 = bt684.1 then (some true) else (some false)))) else (some false))))) else (some false)))))
def laws_FnExactView.f (k : Nat) (l0_0 : List (S105)) (l0_1 : List (S108)) : Option (Bool) := (laws_szState.f k l0_0 l0_1 1048576).bind fun t652 => (if t652 < 0 then (some true) else ((laws_toState.f k l0_0 l0_1).bind fun bt653 => ((spec_View.f k bt653.1 bt653.2).bind fun t659 => ((laws_toState.f k l0_0 l0_1).bind fun bt662 => ((impl_View.f k bt662.1 bt662.2).bind fun t669 => ((laws_eqItemS.f k t669 t659).bind fun t672 => (if t672 = true then ((laws_toState.f k l0_0 l0_1).bind fun bt673 => ((laws_eqState.f k bt662.1 bt662.2 bt673.1 bt673.2).bind fun t679 => (if t679 = true then ((laws_markState.f k bt662.1 bt662.2 1).bind fun bt680 => (if bt680.1 < 0 then (laws_FnExactView.j0 k t659 t669 true l0_0 l0_1) else ((laws_eqItemS.f k t669 t659).bind fun t683 => (laws_FnExactView.j0 k t659 t669 (!t683) l0_0 l0_1)))) else (some false)))) else (some false))))))))
theorem laws_FnExactView.mono_l : ∀ k, (∀ y0 y1 y2 y3 y4, LeO (laws_FnExactView.j0 k y0 y1 y2 y3 y4) (laws_FnExactView.j0 (k + 1) y0 y1 y2 y3 y4))
 | 0 => fun _ _ _ _ _ r h => by simp [laws_FnExactView.j0] at h
 | k + 1 => by
  have ih0 := laws_FnExactView.mono_l k
  ·intro y0 y1 y2 y3 y4
   unfold laws_FnExactView.j0
   repeat' first
   | (with_reducible exact ih0 _ _ _ _ _)
   | (with_reducible exact impl_View.mono _ _ _)
   | (with_reducible exact laws_eqItemS.mono _ _ _)
   | (with_reducible exact laws_eqState.mono _ _ _ _ _)
   | (with_reducible exact laws_heldItemS.mono _ _ _)
   | (with_reducible exact laws_markItemS.mono _ _ _)
   | (with_reducible exact laws_markState.mono _ _ _ _)
   | (with_reducible exact laws_szState.mono _ _ _ _)
   | (with_reducible exact laws_toState.mono _ _ _)
   | (with_reducible exact spec_View.mono _ _ _)
   | (with_reducible exact LeO.refl _)
   | (with_reducible exact LeO.none _)
   | (with_reducible refine LeO.ite ?_ ?_)
   | (with_reducible refine LeO.bind ?_ (fun _ => ?_))
   | exact ih0 _ _ _ _ _
   | exact impl_View.mono _ _ _
   | exact laws_eqItemS.mono _ _ _
   | exact laws_eqState.mono _ _ _ _ _
   | exact laws_heldItemS.mono _ _ _
   | exact laws_markItemS.mono _ _ _
   | exact laws_markState.mono _ _ _ _
   | exact laws_szState.mono _ _ _ _
   | exact laws_toState.mono _ _ _
   | exact spec_View.mono _ _ _
   | exact LeO.none _
   | refine LeO.ite ?_ ?_
   | refine LeO.bind ?_ (fun _ => ?_)
theorem laws_FnExactView.mono : ∀ a0 a1 k, LeO (laws_FnExactView.f k a0 a1) (laws_FnExactView.f (k + 1) a0 a1) := by
 intro a0 a1 k
 have ih0 := laws_FnExactView.mono_l k
 unfold laws_FnExactView.f
 repeat' first
   | (with_reducible exact ih0 _ _ _ _ _)
   | (with_reducible exact impl_View.mono _ _ _)
   | (with_reducible exact laws_eqItemS.mono _ _ _)
   | (with_reducible exact laws_eqState.mono _ _ _ _ _)
   | (with_reducible exact laws_heldItemS.mono _ _ _)
   | (with_reducible exact laws_markItemS.mono _ _ _)
   | (with_reducible exact laws_markState.mono _ _ _ _)
   | (with_reducible exact laws_szState.mono _ _ _ _)
   | (with_reducible exact laws_toState.mono _ _ _)
   | (with_reducible exact spec_View.mono _ _ _)
   | (with_reducible exact LeO.refl _)
   | (with_reducible exact LeO.none _)
   | (with_reducible refine LeO.ite ?_ ?_)
   | (with_reducible refine LeO.bind ?_ (fun _ => ?_))
   | exact ih0 _ _ _ _ _
   | exact impl_View.mono _ _ _
   | exact laws_eqItemS.mono _ _ _
   | exact laws_eqState.mono _ _ _ _ _
   | exact laws_heldItemS.mono _ _ _
   | exact laws_markItemS.mono _ _ _
   | exact laws_markState.mono _ _ _ _
   | exact laws_szState.mono _ _ _ _
   | exact laws_toState.mono _ _ _
   | exact spec_View.mono _ _ _
   | exact LeO.none _
   | refine LeO.ite ?_ ?_
   | refine LeO.bind ?_ (fun _ => ?_)
set_option maxHeartbeats 8000000 in
set_option maxRecDepth 100000 in
theorem laws_FnExactView.calls (k : Nat) (A0_0 : Option Addr) (c0_0 : Nat) (l0_0 : List (S105)) (A0_1 : Option Addr) (c0_1 : Nat) (l0_1 : List (S108)) (r : Bool) (w : World) (hr0_0 : Kd.C k105 w A0_0 l0_0.length l0_0) (hc0_0 : l0_0.length ≤ c0_0) (hr0_1 : Kd.C k108 w A0_1 l0_1.length l0_1) (hc0_1 : l0_1.length ≤ c0_1) (h : laws_FnExactView.f k l0_0 l0_1 = some r) :
  Calls Try.prog 13 #[.agg #[.slice A0_0 l0_0.length c0_0, .slice A0_1 l0_1.length c0_1]] w fun e w' => e = .returned (.bool r) ∧ Below w.heap.size w w' := by
 have hu48 := Try.underlying48
 have hu55 := Try.underlying55
 have HR0_0 := zm hr0_0
 have HC0_0 := zm hc0_0
 clear hr0_0 hc0_0
 have HR0_1 := zm hr0_1
 have HC0_1 := zm hc0_1
 clear hr0_1 hc0_1
 have HB := zm (Below.refl w.heap.size w)
 have H : ((laws_szState.f k l0_0 l0_1 1048576).bind fun t652 => (if t652 < 0 then (some true) else ((laws_toState.f k l0_0 l0_1).bind fun bt653 => ((spec_View.f k bt653.1 bt653.2).bind fun t659 => ((laws_toState.f k l0_0 l0_1).bind fun bt662 => ((impl_View.f k bt662.1 bt662.2).bind fun t669 => ((laws_eqItemS.f k t669 t659).bind fun t672 => (if t672 = true then ((laws_toState.f k l0_0 l0_1).bind fun bt673 => ((laws_eqState.f k bt662.1 bt662.2 bt673.1 bt673.2).bind fun t679 => (if t679 = true then ((laws_markState.f k bt662.1 bt662.2 1).bind fun bt680 => (if bt680.1 < 0 then (laws_FnExactView.j0 k t659 t669 true l0_0 l0_1) else ((laws_eqItemS.f k t669 t659).bind fun t683 => (laws_FnExactView.j0 k t659 t669 (!t683) l0_0 l0_1)))) else (some false)))) else (some false))))))))) = some r := h
 clear h
 replace H := Option.bind_eq_some_iff.mp H
 obtain ⟨t652, A20, H⟩ := H
 replace H : (if t652 < 0 then (some true) else ((laws_toState.f k l0_0 l0_1).bind fun bt653 => ((spec_View.f k bt653.1 bt653.2).bind fun t659 => ((laws_toState.f k l0_0 l0_1).bind fun bt662 => ((impl_View.f k bt662.1 bt662.2).bind fun t669 => ((laws_eqItemS.f k t669 t659).bind fun t672 => (if t672 = true then ((laws_toState.f k l0_0 l0_1).bind fun bt673 => ((laws_eqState.f k bt662.1 bt662.2 bt673.1 bt673.2).bind fun t679 => (if t679 = true then ((laws_markState.f k bt662.1 bt662.2 1).bind fun bt680 => (if bt680.1 < 0 then (laws_FnExactView.j0 k t659 t669 true l0_0 l0_1) else ((laws_eqItemS.f k t669 t659).bind fun t683 => (laws_FnExactView.j0 k t659 t669 (!t683) l0_0 l0_1)))) else (some false)))) else (some false)))))))) = some r := H
 have A2 := zm A20
 clear A20
 by_cases c3 : t652 < 0
 ·rw [if_pos c3] at H
  have c3b0 : decide (t652 < 0) = true := decide_eq_true c3
  clear c3
  obtain rfl := Option.some.inj H
  go_enter Try.func13, Try.ntmps13
  go_wp2_with (first | ((with_reducible refine gate_dst (N := 1) rfl ?_); refine zbox 1 #[.slice A0_0 l0_0.length c0_0, .slice A0_1 l0_1.length c0_1] 48 ?_; intro gb651 hg w4 hbox hb; have BK651 := zm (hbox); have GW651 := zge w hg zB; have GE651 := zge w hg zB; replace HB := zm (below_step zB hb); clear hb hbox hg; have hcz5_0 : w4.cell? ⟨gb651, 0, none⟩ = some (.slice A0_0 l0_0.length c0_0) := (blk_cell BK651.out 0).trans rfl; have hcz5_1 : w4.cell? ⟨gb651, 1, none⟩ = some (.slice A0_1 l0_1.length c0_1) := (blk_cell BK651.out 1).trans rfl; have hfz5_0 := blk_frozen BK651.out 0; have hfz5_1 := blk_frozen BK651.out 1) | ((with_reducible refine gate_callee (f := 35) rfl ?_); refine zg (some 13) #[.agg #[.slice A0_0 l0_0.length c0_0, .slice A0_1 l0_1.length c0_1], .int .i64 1048576] Try.func35 ?_; (with_reducible refine (laws_szState.calls k _ _ l0_0 _ _ l0_1 1048576 t652 _ (zk (Kd.C_below HR0_0.out HB.out)) HC0_0.out (zk (Kd.C_below HR0_1.out HB.out)) HC0_1.out A2.out).mono ?_); rintro e w6 ⟨rfl, hb⟩; refine ⟨_, rfl, ?_⟩; replace BK651 := zm (blk_below (zb BK651) hb); replace HB := zm (below_step zB hb); clear hb))
  go_ret
  exact ⟨zE, zB⟩
 ·rw [if_neg c3] at H
  have c3b0 : decide (t652 < 0) = false := decide_eq_false c3
  clear c3
  replace H := Option.bind_eq_some_iff.mp H
  obtain ⟨⟨t653, t656⟩, A70, H⟩ := H
  replace H : ((spec_View.f k t653 t656).bind fun t659 => ((laws_toState.f k l0_0 l0_1).bind fun bt662 => ((impl_View.f k bt662.1 bt662.2).bind fun t669 => ((laws_eqItemS.f k t669 t659).bind fun t672 => (if t672 = true then ((laws_toState.f k l0_0 l0_1).bind fun bt673 => ((laws_eqState.f k bt662.1 bt662.2 bt673.1 bt673.2).bind fun t679 => (if t679 = true then ((laws_markState.f k bt662.1 bt662.2 1).bind fun bt680 => (if bt680.1 < 0 then (laws_FnExactView.j0 k t659 t669 true l0_0 l0_1) else ((laws_eqItemS.f k t669 t659).bind fun t683 => (laws_FnExactView.j0 k t659 t669 (!t683) l0_0 l0_1)))) else (some false)))) else (some false)))))) = some r := H
  have A7 := zm A70
  clear A70
  replace H := Option.bind_eq_some_iff.mp H
  obtain ⟨t659, A80, H⟩ := H
  replace H : ((laws_toState.f k l0_0 l0_1).bind fun bt662 => ((impl_View.f k bt662.1 bt662.2).bind fun t669 => ((laws_eqItemS.f k t669 t659).bind fun t672 => (if t672 = true then ((laws_toState.f k l0_0 l0_1).bind fun bt673 => ((laws_eqState.f k bt662.1 bt662.2 bt673.1 bt673.2).bind fun t679 => (if t679 = true then ((laws_markState.f k bt662.1 bt662.2 1).bind fun bt680 => (if bt680.1 < 0 then (laws_FnExactView.j0 k t659 t669 true l0_0 l0_1) else ((laws_eqItemS.f k t669 t659).bind fun t683 => (laws_FnExactView.j0 k t659 t669 (!t683) l0_0 l0_1)))) else (some false)))) else (some false))))) = some r := H
  have A8 := zm A80
  clear A80
  replace H := Option.bind_eq_some_iff.mp H
  obtain ⟨⟨t662, t665⟩, A90, H⟩ := H
  replace H : ((impl_View.f k t662 t665).bind fun t669 => ((laws_eqItemS.f k t669 t659).bind fun t672 => (if t672 = true then ((laws_toState.f k l0_0 l0_1).bind fun bt673 => ((laws_eqState.f k t662 t665 bt673.1 bt673.2).bind fun t679 => (if t679 = true then ((laws_markState.f k t662 t665 1).bind fun bt680 => (if bt680.1 < 0 then (laws_FnExactView.j0 k t659 t669 true l0_0 l0_1) else ((laws_eqItemS.f k t669 t659).bind fun t683 => (laws_FnExactView.j0 k t659 t669 (!t683) l0_0 l0_1)))) else (some false)))) else (some false)))) = some r := H
  have A9 := zm A90
  clear A90
  replace H := Option.bind_eq_some_iff.mp H
  obtain ⟨t669, A100, H⟩ := H
  replace H : ((laws_eqItemS.f k t669 t659).bind fun t672 => (if t672 = true then ((laws_toState.f k l0_0 l0_1).bind fun bt673 => ((laws_eqState.f k t662 t665 bt673.1 bt673.2).bind fun t679 => (if t679 = true then ((laws_markState.f k t662 t665 1).bind fun bt680 => (if bt680.1 < 0 then (laws_FnExactView.j0 k t659 t669 true l0_0 l0_1) else ((laws_eqItemS.f k t669 t659).bind fun t683 => (laws_FnExactView.j0 k t659 t669 (!t683) l0_0 l0_1)))) else (some false)))) else (some false))) = some r := H
  have A10 := zm A100
  clear A100
  replace H := Option.bind_eq_some_iff.mp H
  obtain ⟨t672, A110, H⟩ := H
  replace H : (if t672 = true then ((laws_toState.f k l0_0 l0_1).bind fun bt673 => ((laws_eqState.f k t662 t665 bt673.1 bt673.2).bind fun t679 => (if t679 = true then ((laws_markState.f k t662 t665 1).bind fun bt680 => (if bt680.1 < 0 then (laws_FnExactView.j0 k t659 t669 true l0_0 l0_1) else ((laws_eqItemS.f k t669 t659).bind fun t683 => (laws_FnExactView.j0 k t659 t669 (!t683) l0_0 l0_1)))) else (some false)))) else (some false)) = some r := H
  have A11 := zm A110
  clear A110
  by_cases c12 : t672 = true
  ·subst c12
   have H1 : ((laws_toState.f k l0_0 l0_1).bind fun bt673 => ((laws_eqState.f k t662 t665 bt673.1 bt673.2).bind fun t679 => (if t679 = true then ((laws_markState.f k t662 t665 1).bind fun bt680 => (if bt680.1 < 0 then (laws_FnExactView.j0 k t659 t669 true l0_0 l0_1) else ((laws_eqItemS.f k t669 t659).bind fun t683 => (laws_FnExactView.j0 k t659 t669 (!t683) l0_0 l0_1)))) else (some false)))) = some r := by rw [if_pos rfl] at H; exact H
   clear H
   have H := H1
   clear H1
   replace H := Option.bind_eq_some_iff.mp H
   obtain ⟨⟨t673, t676⟩, A130, H⟩ := H
   replace H : ((laws_eqState.f k t662 t665 t673 t676).bind fun t679 => (if t679 = true then ((laws_markState.f k t662 t665 1).bind fun bt680 => (if bt680.1 < 0 then (laws_FnExactView.j0 k t659 t669 true l0_0 l0_1) else ((laws_eqItemS.f k t669 t659).bind fun t683 => (laws_FnExactView.j0 k t659 t669 (!t683) l0_0 l0_1)))) else (some false))) = some r := H
   have A13 := zm A130
   clear A130
   replace H := Option.bind_eq_some_iff.mp H
   obtain ⟨t679, A140, H⟩ := H
   replace H : (if t679 = true then ((laws_markState.f k t662 t665 1).bind fun bt680 => (if bt680.1 < 0 then (laws_FnExactView.j0 k t659 t669 true l0_0 l0_1) else ((laws_eqItemS.f k t669 t659).bind fun t683 => (laws_FnExactView.j0 k t659 t669 (!t683) l0_0 l0_1)))) else (some false)) = some r := H
   have A14 := zm A140
   clear A140
   by_cases c15 : t679 = true
   ·subst c15
    have H1 : ((laws_markState.f k t662 t665 1).bind fun bt680 => (if bt680.1 < 0 then (laws_FnExactView.j0 k t659 t669 true l0_0 l0_1) else ((laws_eqItemS.f k t669 t659).bind fun t683 => (laws_FnExactView.j0 k t659 t669 (!t683) l0_0 l0_1)))) = some r := by rw [if_pos rfl] at H; exact H
    clear H
    have H := H1
    clear H1
    replace H := Option.bind_eq_some_iff.mp H
    obtain ⟨⟨t680, t681, t682⟩, A160, H⟩ := H
    replace H : (if t680 < 0 then (laws_FnExactView.j0 k t659 t669 true l0_0 l0_1) else ((laws_eqItemS.f k t669 t659).bind fun t683 => (laws_FnExactView.j0 k t659 t669 (!t683) l0_0 l0_1))) = some r := H
    have A16 := zm A160
    clear A160
    have HC17 := zm H
    clear H
    go_enter Try.func13, Try.ntmps13
    try go_wp2_with (first | ((with_reducible refine gate_dst (N := 1) rfl ?_); refine zbox 1 #[.slice A0_0 l0_0.length c0_0, .slice A0_1 l0_1.length c0_1] 48 ?_; intro gb651 hg w18 hbox hb; have BK651 := zm (hbox); have GW651 := zge w hg zB; have GE651 := zge w hg zB; replace HB := zm (below_step zB hb); clear hb hbox hg; have hcz19_0 : w18.cell? ⟨gb651, 0, none⟩ = some (.slice A0_0 l0_0.length c0_0) := (blk_cell BK651.out 0).trans rfl; have hcz19_1 : w18.cell? ⟨gb651, 1, none⟩ = some (.slice A0_1 l0_1.length c0_1) := (blk_cell BK651.out 1).trans rfl; have hfz19_0 := blk_frozen BK651.out 0; have hfz19_1 := blk_frozen BK651.out 1) | ((with_reducible refine gate_callee (f := 35) rfl ?_); refine zg (some 13) #[.agg #[.slice A0_0 l0_0.length c0_0, .slice A0_1 l0_1.length c0_1], .int .i64 1048576] Try.func35 ?_; (with_reducible refine (laws_szState.calls k _ _ l0_0 _ _ l0_1 1048576 t652 _ (zk (Kd.C_below HR0_0.out HB.out)) HC0_0.out (zk (Kd.C_below HR0_1.out HB.out)) HC0_1.out A2.out).mono ?_); rintro e w20 ⟨rfl, hb⟩; refine ⟨_, rfl, ?_⟩; replace BK651 := zm (blk_below (zb BK651) hb); replace HB := zm (below_step zB hb); clear hb; have hcz21_0 : w20.cell? ⟨gb651, 0, none⟩ = some (.slice A0_0 l0_0.length c0_0) := (blk_cell BK651.out 0).trans rfl; have hcz21_1 : w20.cell? ⟨gb651, 1, none⟩ = some (.slice A0_1 l0_1.length c0_1) := (blk_cell BK651.out 1).trans rfl; have hfz21_0 := blk_frozen BK651.out 0; have hfz21_1 := blk_frozen BK651.out 1) | ((with_reducible refine gate_callee (f := 37) rfl ?_); refine zg (some 17) #[.agg #[.slice A0_0 l0_0.length c0_0, .slice A0_1 l0_1.length c0_1]] Try.func37 ?_; (with_reducible refine (laws_toState.calls k _ _ l0_0 _ _ l0_1 t653 t656 _ (zk (Kd.C_below HR0_0.out HB.out)) HC0_0.out (zk (Kd.C_below HR0_1.out HB.out)) HC0_1.out A7.out).mono ?_); rintro e w22 ⟨v654, v657, rfl, ho0, ho1, hb⟩; refine ⟨_, rfl, ?_⟩; have HO655 := zm (Kd.R_lower ho0 (below_size zB)); have HO658 := zm (Kd.R_lower ho1 (below_size zB)); replace BK651 := zm (blk_below (zb BK651) hb); replace HB := zm (below_step zB hb); clear hb ho0 ho1; obtain ⟨Ao23, co23, eo23⟩ := Kd.R_slice HO655.out; subst eo23; obtain ⟨Ao24, co24, eo24⟩ := Kd.R_slice HO658.out; subst eo24) | ((with_reducible refine gate_callee (f := 54) rfl ?_); refine zg (some 18) #[.agg #[.slice Ao23 t653.length co23, .slice Ao24 t656.length co24]] Try.func54 ?_; (with_reducible refine (spec_View.calls k _ _ t653 _ _ t656 t659 _ ?side1 ?side2 ?side3 ?side4 A8.out).mono ?_); (case side1 => repeat (first | exact (Kd.R_reads' HO655.out).2.2 | (with_reducible refine Kd.C_alloc ?_ _) | (with_reducible refine Kd.C_drewN ?_ _) | (with_reducible refine Kd.C_drew ?_))); (case side2 => exact (Kd.R_reads' HO655.out).2.1); (case side3 => repeat (first | exact (Kd.R_reads' HO658.out).2.2 | (with_reducible refine Kd.C_alloc ?_ _) | (with_reducible refine Kd.C_drewN ?_ _) | (with_reducible refine Kd.C_drew ?_))); (case side4 => exact (Kd.R_reads' HO658.out).2.1); rintro e w25 ⟨v660, rfl, ho0, hb⟩; refine ⟨_, rfl, ?_⟩; replace HO658 := zm (Kd.R_below (zr HO658) hb); have HO661 := zm (Kd.R_lower (Kd.R_new' ho0 (Kd.R_lt (zr HO655))) (below_size zB)); replace HO655 := zm (Kd.R_elder' (zr HO655) (Kd.R_base ho0) hb); replace BK651 := zm (blk_below (zb BK651) hb); replace HB := zm (below_step zB hb); clear hb ho0; have hcz26_0 : w25.cell? ⟨gb651, 0, none⟩ = some (.slice A0_0 l0_0.length c0_0) := (blk_cell BK651.out 0).trans rfl; have hcz26_1 : w25.cell? ⟨gb651, 1, none⟩ = some (.slice A0_1 l0_1.length c0_1) := (blk_cell BK651.out 1).trans rfl; have hfz26_0 := blk_frozen BK651.out 0; have hfz26_1 := blk_frozen BK651.out 1) | ((with_reducible refine gate_callee (f := 37) rfl ?_); refine zg (some 20) #[.agg #[.slice A0_0 l0_0.length c0_0, .slice A0_1 l0_1.length c0_1]] Try.func37 ?_; (with_reducible refine (laws_toState.calls k _ _ l0_0 _ _ l0_1 t662 t665 _ (zk (Kd.C_below HR0_0.out HB.out)) HC0_0.out (zk (Kd.C_below HR0_1.out HB.out)) HC0_1.out A9.out).mono ?_); rintro e w27 ⟨v663, v666, rfl, ho0, ho1, hb⟩; refine ⟨_, rfl, ?_⟩; have HO664 := zm (Kd.R_lower (Kd.R_new' (Kd.R_new' ho0 (Kd.R_lt (zr HO655))) (Kd.R_lt (zr HO661))) (below_size zB)); replace HO655 := zm (Kd.R_elder' (zr HO655) (Kd.R_base ho0) hb); replace HO661 := zm (Kd.R_elder' (zr HO661) (Kd.R_base ho0) hb); have HO667 := zm (Kd.R_lower (Kd.R_new' ho1 (Kd.R_lt (zr HO658))) (below_size zB)); replace HO658 := zm (Kd.R_elder' (zr HO658) (Kd.R_base ho1) hb); replace BK651 := zm (blk_below (zb BK651) hb); replace HB := zm (below_step zB hb); clear hb ho0 ho1) | ((with_reducible refine gate_dst (N := 5) rfl ?_); refine zbox 5 #[.slice none 0 0, .slice none 0 0] 55 ?_; intro gb668 hg w28 hbox hb; replace HO655 := zm (Kd.R_below (zr HO655) hb); replace HO658 := zm (Kd.R_below (zr HO658) hb); replace HO661 := zm (Kd.R_below (zr HO661) hb); replace HO664 := zm (Kd.R_below (zr HO664) hb); replace HO667 := zm (Kd.R_below (zr HO667) hb); have BK668 := zm (hbox); have GW668 := zge w hg zB; have GE668 := zge w hg zB; replace HB := zm (below_step zB hb); have NB651_668 := zlt hg (zb BK651); have NB668_651 := zgt hg (zb BK651); replace BK651 := zm (blk_below (zb BK651) hb); clear hb hbox hg; obtain ⟨Ao29, co29, eo29⟩ := Kd.R_slice HO664.out; subst eo29; have hnb30 := NB668_651.out; have hnc30 := NB651_668.out; have hcz31_0 : w28.cell? ⟨gb668, 0, none⟩ = some (.slice none 0 0) := (blk_cell BK668.out 0).trans rfl; have hcz31_1 : w28.cell? ⟨gb668, 1, none⟩ = some (.slice none 0 0) := (blk_cell BK668.out 1).trans rfl; have hfz31_0 := blk_frozen BK668.out 0; have hfz31_1 := blk_frozen BK668.out 1; obtain ⟨Ao32, co32, eo32⟩ := Kd.R_slice HO667.out; subst eo32) | ((with_reducible refine gate_callee (f := 55) rfl ?_); refine zg (some 22) #[.agg #[.slice Ao29 t662.length co29, .slice Ao32 t665.length co32]] Try.func55 ?_; (with_reducible refine (impl_View.calls k _ _ t662 _ _ t665 t669 _ ?side1 ?side2 ?side3 ?side4 A10.out).mono ?_); (case side1 => refine (Kd.R_reads' (e := 84) (base := w.heap.size) (ok := fun k_ => ((True ∧ some k_ ≠ (.slice Ao23 t653.length co23 : Value).ownBlock) ∧ some k_ ≠ (v660 : Value).ownBlock)) (n := t662.length) (c := co29) ?_).2.2; exact (zrs <| (Kd.R_mono (zfr (zfr (Kd.R_types HO664.out BK668.out (by decide)))) (fun _ h_ => h_.1)))); (case side2 => exact (Kd.R_reads' HO664.out).2.1); (case side3 => refine (Kd.R_reads' (e := 89) (base := w.heap.size) (ok := fun k_ => (True ∧ some k_ ≠ (.slice Ao24 t656.length co24 : Value).ownBlock)) (n := t665.length) (c := co32) ?_).2.2; exact (zrs <| (Kd.R_mono (zfr (zfr (Kd.R_types HO667.out BK668.out (by decide)))) (fun _ h_ => h_.1)))); (case side4 => exact (Kd.R_reads' HO667.out).2.1); rintro e w33 ⟨v670, rfl, ho0, hb⟩; refine ⟨_, rfl, ?_⟩; replace HO658 := zm (Kd.R_below (zrs <| (Kd.R_mono (zfr (zfr (Kd.R_types HO658.out BK668.out (by decide)))) (fun _ h_ => h_.1))) hb); replace HO667 := zm (Kd.R_below (zrs <| (Kd.R_mono (zfr (zfr (Kd.R_types HO667.out BK668.out (by decide)))) (fun _ h_ => h_.1))) hb); have HO671 := zm (Kd.R_lower (Kd.R_new' (Kd.R_new' (Kd.R_new' ho0 (Kd.R_lt (zrs <| (Kd.R_mono (zfr (zfr (Kd.R_types HO655.out BK668.out (by decide)))) (fun _ h_ => h_.1))))) (Kd.R_lt (zrs <| (Kd.R_mono (zfr (zfr (Kd.R_types HO661.out BK668.out (by decide)))) (fun _ h_ => h_.1))))) (Kd.R_lt (zrs <| (Kd.R_mono (zfr (zfr (Kd.R_types HO664.out BK668.out (by decide)))) (fun _ h_ => h_.1))))) (below_size zB)); replace HO655 := zm (Kd.R_elder' (zrs <| (Kd.R_mono (zfr (zfr (Kd.R_types HO655.out BK668.out (by decide)))) (fun _ h_ => h_.1))) (Kd.R_base ho0) hb); replace HO661 := zm (Kd.R_elder' (zrs <| (Kd.R_mono (zfr (zfr (Kd.R_types HO661.out BK668.out (by decide)))) (fun _ h_ => h_.1))) (Kd.R_base ho0) hb); replace HO664 := zm (Kd.R_elder' (zrs <| (Kd.R_mono (zfr (zfr (Kd.R_types HO664.out BK668.out (by decide)))) (fun _ h_ => h_.1))) (Kd.R_base ho0) hb); replace BK651 := zm (blk_below (g := gb651) (o := .cells #[.slice A0_0 l0_0.length c0_0, .slice A0_1 l0_1.length c0_1] 48 (0, 0)) (zfar (zfar (zb BK651) NB651_668) NB651_668) hb); replace BK668 := zm (blk_below (g := gb668) (o := .cells #[.slice Ao29 t662.length co29, .slice Ao32 t665.length co32] 55 (0, 0)) (zput (zput (zb BK668) 0) 1) hb); replace HB := zm (below_step zB hb); clear hb ho0; obtain ⟨Ao34, co34, eo34⟩ := Kd.R_slice HO671.out; subst eo34; obtain ⟨Ao35, co35, eo35⟩ := Kd.R_slice HO661.out; subst eo35) | ((with_reducible refine gate_callee (f := 56) rfl ?_); refine zg (some 25) #[.slice Ao34 t669.length co34, .slice Ao35 t659.length co35] Try.func56 ?_; (with_reducible refine (laws_eqItemS.calls k _ _ t669 _ _ t659 true _ ?side1 ?side2 ?side3 ?side4 A11.out).mono ?_); (case side1 => repeat (first | exact (Kd.R_reads' HO671.out).2.2 | (with_reducible refine Kd.C_alloc ?_ _) | (with_reducible refine Kd.C_drewN ?_ _) | (with_reducible refine Kd.C_drew ?_))); (case side2 => exact (Kd.R_reads' HO671.out).2.1); (case side3 => repeat (first | exact (Kd.R_reads' HO661.out).2.2 | (with_reducible refine Kd.C_alloc ?_ _) | (with_reducible refine Kd.C_drewN ?_ _) | (with_reducible refine Kd.C_drew ?_))); (case side4 => exact (Kd.R_reads' HO661.out).2.1); rintro e w36 ⟨rfl, hb⟩; refine ⟨_, rfl, ?_⟩; replace HO655 := zm (Kd.R_below (zr HO655) hb); replace HO658 := zm (Kd.R_below (zr HO658) hb); replace HO661 := zm (Kd.R_below (zr HO661) hb); replace HO664 := zm (Kd.R_below (zr HO664) hb); replace HO667 := zm (Kd.R_below (zr HO667) hb); replace HO671 := zm (Kd.R_below (zr HO671) hb); replace BK651 := zm (blk_below (zb BK651) hb); replace BK668 := zm (blk_below (zb BK668) hb); replace HB := zm (below_step zB hb); clear hb))
    replace HO655 := zm (Kd.R_drew HO655.out)
    replace HO658 := zm (Kd.R_drew HO658.out)
    replace HO661 := zm (Kd.R_drew HO661.out)
    replace HO664 := zm (Kd.R_drew HO664.out)
    replace HO667 := zm (Kd.R_drew HO667.out)
    replace HO671 := zm (Kd.R_drew HO671.out)
    replace BK651 := zm (blk_drew BK651.out)
    replace BK668 := zm (blk_drew BK668.out)
    replace HB := zm (below_drew1 HB.out)
    refine start_ (n := 5) (S := fun w' => w'.cell? ⟨gb668, 0, none⟩ = some (.slice Ao29 t662.length co29) ∧ w'.cell? ⟨gb668, 1, none⟩ = some (.slice Ao32 t665.length co32) ∧ w'.cell? ⟨gb651, 0, none⟩ = some (.slice A0_0 l0_0.length c0_0) ∧ w'.cell? ⟨gb651, 1, none⟩ = some (.slice A0_1 l0_1.length c0_1)) (ds := []) (zl 5 0) (by kernel_rfl) rfl rfl ⟨(blk_cell BK668.out 0).trans rfl, (blk_cell BK668.out 1).trans rfl, (blk_cell BK651.out 0).trans rfl, (blk_cell BK651.out 1).trans rfl⟩ (fun hHeld => ?_)
    generalize w36.drew = w37 at HO655 HO658 HO661 HO664 HO667 HO671 BK651 BK668 HB hHeld ⊢
    refine zt 0 (some 27) (zl 5 1) ?_
    refine zt 1 (some 28) (zl 5 3) ?_
    refine zo 2 (some 29) (zl 5 7) (fun K hK => ?_)
    refine zgo #[.agg #[.slice A0_0 l0_0.length c0_0, .slice A0_1 l0_1.length c0_1]] Try.func37 ?_
    with_reducible refine (laws_toState.calls k _ _ l0_0 _ _ l0_1 t673 t676 _ (zk (Kd.C_below HR0_0.out HB.out)) HC0_0.out (zk (Kd.C_below HR0_1.out HB.out)) HC0_1.out A13.out).mono ?_
    rintro e w38 ⟨v674, v677, rfl, ho0, ho1, hb⟩
    refine ⟨_, rfl, ?_⟩
    have HO675 := zm (Kd.R_lower (Kd.R_new' (Kd.R_new' (Kd.R_new' (Kd.R_new' ho0 (Kd.R_lt (zr HO655))) (Kd.R_lt (zr HO661))) (Kd.R_lt (zr HO664))) (Kd.R_lt (zr HO671))) (below_size zB))
    replace HO655 := zm (Kd.R_elder' (zr HO655) (Kd.R_base ho0) hb)
    replace HO661 := zm (Kd.R_elder' (zr HO661) (Kd.R_base ho0) hb)
    replace HO664 := zm (Kd.R_elder' (zr HO664) (Kd.R_base ho0) hb)
    replace HO671 := zm (Kd.R_elder' (zr HO671) (Kd.R_base ho0) hb)
    have HO678 := zm (Kd.R_lower (Kd.R_new' (Kd.R_new' ho1 (Kd.R_lt (zr HO658))) (Kd.R_lt (zr HO667))) (below_size zB))
    replace HO658 := zm (Kd.R_elder' (zr HO658) (Kd.R_base ho1) hb)
    replace HO667 := zm (Kd.R_elder' (zr HO667) (Kd.R_base ho1) hb)
    replace BK651 := zm (blk_below (zb BK651) hb)
    replace BK668 := zm (blk_below (zb BK668) hb)
    replace HB := zm (below_step zB hb)
    (try clear hb)
    (try clear hb2)
    (try clear hk)
    (try clear hi)
    (try clear ho0)
    (try clear ho1)
    obtain ⟨Ao39, co39, eo39⟩ := Kd.R_slice HO675.out
    (first | subst eo39 | (injection eo39 with f1_ f2_ f3_; have f4_ := f1_.symm; have f5_ := f3_.symm; clear f1_ f2_ f3_; subst f4_; subst f5_))
    obtain ⟨Ao40, co40, eo40⟩ := Kd.R_slice HO678.out
    (first | subst eo40 | (injection eo40 with f1_ f2_ f3_; have f4_ := f1_.symm; have f5_ := f3_.symm; clear f1_ f2_ f3_; subst f4_; subst f5_))
    refine hK.out _ _ ⟨(blk_cell BK668.out 0).trans rfl, (blk_cell BK668.out 1).trans rfl, (blk_cell BK651.out 0).trans rfl, (blk_cell BK651.out 1).trans rfl⟩ (fun hHeld => ?_)
    clear hK K
    refine zn ?_
    refine zo 3 (some 30) (zl 5 15) (fun K hK => ?_)
    refine zgo #[.agg #[.slice Ao29 t662.length co29, .slice Ao32 t665.length co32], .agg #[.slice Ao39 t673.length co39, .slice Ao40 t676.length co40]] Try.func39 ?_
    with_reducible refine (laws_eqState.calls k _ _ t662 _ _ t665 _ _ t673 _ _ t676 true _ ?side1 ?side2 ?side3 ?side4 ?side5 ?side6 ?side7 ?side8 A14.out).mono ?_
    (case side1 => repeat (first | exact (Kd.R_reads' HO664.out).2.2 | (with_reducible refine Kd.C_alloc ?_ _) | (with_reducible refine Kd.C_drewN ?_ _) | (with_reducible refine Kd.C_drew ?_)))
    (case side2 => exact (Kd.R_reads' HO664.out).2.1)
    (case side3 => repeat (first | exact (Kd.R_reads' HO667.out).2.2 | (with_reducible refine Kd.C_alloc ?_ _) | (with_reducible refine Kd.C_drewN ?_ _) | (with_reducible refine Kd.C_drew ?_)))
    (case side4 => exact (Kd.R_reads' HO667.out).2.1)
    (case side5 => repeat (first | exact (Kd.R_reads' HO675.out).2.2 | (with_reducible refine Kd.C_alloc ?_ _) | (with_reducible refine Kd.C_drewN ?_ _) | (with_reducible refine Kd.C_drew ?_)))
    (case side6 => exact (Kd.R_reads' HO675.out).2.1)
    (case side7 => repeat (first | exact (Kd.R_reads' HO678.out).2.2 | (with_reducible refine Kd.C_alloc ?_ _) | (with_reducible refine Kd.C_drewN ?_ _) | (with_reducible refine Kd.C_drew ?_)))
    (case side8 => exact (Kd.R_reads' HO678.out).2.1)
    rintro e w41 ⟨rfl, hb⟩
    refine ⟨_, rfl, ?_⟩
    replace HO655 := zm (Kd.R_below (zr HO655) hb)
    replace HO658 := zm (Kd.R_below (zr HO658) hb)
    replace HO661 := zm (Kd.R_below (zr HO661) hb)
    replace HO664 := zm (Kd.R_below (zr HO664) hb)
    replace HO667 := zm (Kd.R_below (zr HO667) hb)
    replace HO671 := zm (Kd.R_below (zr HO671) hb)
    replace HO675 := zm (Kd.R_below (zr HO675) hb)
    replace HO678 := zm (Kd.R_below (zr HO678) hb)
    replace BK651 := zm (blk_below (zb BK651) hb)
    replace BK668 := zm (blk_below (zb BK668) hb)
    replace HB := zm (below_step zB hb)
    (try clear hb)
    (try clear hb2)
    (try clear hk)
    (try clear hi)
    refine hK.out _ _ ⟨(blk_cell BK668.out 0).trans rfl, (blk_cell BK668.out 1).trans rfl, (blk_cell BK651.out 0).trans rfl, (blk_cell BK651.out 1).trans rfl⟩ (fun hHeld => ?_)
    clear hK K
    refine zn ?_
    refine zp 4 (some 31) (zl 5 31) ?_
    refine done_ (by kernel_rfl) ?_
    have hcz42_0 : w41.cell? ⟨gb668, 0, none⟩ = some (.slice Ao29 t662.length co29) := (blk_cell BK668.out 0).trans rfl
    have hcz42_1 : w41.cell? ⟨gb668, 1, none⟩ = some (.slice Ao32 t665.length co32) := (blk_cell BK668.out 1).trans rfl
    have hfz42_0 := blk_frozen BK668.out 0
    have hfz42_1 := blk_frozen BK668.out 1
    go_upto_region 14 with (first | ((with_reducible refine gate_callee (f := 48) rfl ?_); refine zg (some 34) #[.agg #[.slice Ao29 t662.length co29, .slice Ao32 t665.length co32], .int .i64 1] Try.func48 ?_; (with_reducible refine (laws_markState.calls k (fun k_ => some k_ = (.slice Ao29 t662.length co29 : Value).ownBlock) (.slice Ao29 t662.length co29) t662 (fun k_ => some k_ = (.slice Ao32 t665.length co32 : Value).ownBlock) (.slice Ao32 t665.length co32) t665 1 t680 t681 t682 w _ zB ?side2 ?side3 A16.out).mono ?_); (case side2 => exact Kd.R_tight rfl HO664.out); (case side3 => exact Kd.R_tight rfl HO667.out); rintro e w43 ⟨rfl, hy0, hy1, hb, hkp⟩; refine ⟨_, rfl, ?_⟩; replace BK651 := zm (blk_kept (zb BK651) hkp (fun hs_ => Or.elim hs_ (fun e_ => (fun e_ => (Kd.R_ne HO664.out BK651.out (by decide)) e_) e_) (fun e_ => (fun e_ => (Kd.R_ne HO667.out BK651.out (by decide)) e_) e_))); replace HO655 := zm (Kd.R_mono (ok' := fun k_ => some k_ ≠ (.slice Ao35 t659.length co35 : Value).ownBlock ∧ some k_ ≠ (.slice Ao29 t662.length co29 : Value).ownBlock ∧ some k_ ≠ (.slice Ao34 t669.length co34 : Value).ownBlock ∧ some k_ ≠ (.slice Ao39 t673.length co39 : Value).ownBlock) (Kd.R_keptB ((Kd.R_apart' HO655.out (Kd.R_typed HO667.out) (by decide))) hkp (fun k_ hk_ hs_ => Or.elim hs_ (fun e_ => (hk_.1.1.1.2) e_) (fun e_ => (hk_.2) e_))) (fun k_ hk_ => ⟨hk_.1.1.1.1.1.2, hk_.1.1.1.1.2, hk_.1.1.1.2, hk_.1.1.2⟩)); replace HO658 := zm (Kd.R_mono (ok' := fun k_ => some k_ ≠ (.slice Ao32 t665.length co32 : Value).ownBlock ∧ some k_ ≠ (.slice Ao40 t676.length co40 : Value).ownBlock) (Kd.R_keptB ((Kd.R_apart' HO658.out (Kd.R_typed HO664.out) (by decide))) hkp (fun k_ hk_ hs_ => Or.elim hs_ (fun e_ => (hk_.2) e_) (fun e_ => (hk_.1.1.2) e_))) (fun k_ hk_ => ⟨hk_.1.1.1.2, hk_.1.1.2⟩)); replace HO661 := zm (Kd.R_mono (ok' := fun k_ => some k_ ≠ (.slice Ao23 t653.length co23 : Value).ownBlock ∧ some k_ ≠ (.slice Ao29 t662.length co29 : Value).ownBlock ∧ some k_ ≠ (.slice Ao34 t669.length co34 : Value).ownBlock ∧ some k_ ≠ (.slice Ao39 t673.length co39 : Value).ownBlock) (Kd.R_keptB ((Kd.R_apart' HO661.out (Kd.R_typed HO667.out) (by decide))) hkp (fun k_ hk_ hs_ => Or.elim hs_ (fun e_ => (hk_.1.1.1.2) e_) (fun e_ => (hk_.2) e_))) (fun k_ hk_ => ⟨hk_.1.1.1.1.1.2, hk_.1.1.1.1.2, hk_.1.1.1.2, hk_.1.1.2⟩)); replace BK668 := zm (blk_kept (zb BK668) hkp (fun hs_ => Or.elim hs_ (fun e_ => (fun e_ => (Kd.R_ne HO664.out BK668.out (by decide)) e_) e_) (fun e_ => (fun e_ => (Kd.R_ne HO667.out BK668.out (by decide)) e_) e_))); replace HO671 := zm (Kd.R_mono (ok' := fun k_ => some k_ ≠ (.slice Ao23 t653.length co23 : Value).ownBlock ∧ some k_ ≠ (.slice Ao35 t659.length co35 : Value).ownBlock ∧ some k_ ≠ (.slice Ao29 t662.length co29 : Value).ownBlock ∧ some k_ ≠ (.slice Ao39 t673.length co39 : Value).ownBlock) (Kd.R_keptB ((Kd.R_apart' HO671.out (Kd.R_typed HO667.out) (by decide))) hkp (fun k_ hk_ hs_ => Or.elim hs_ (fun e_ => (hk_.1.1.2) e_) (fun e_ => (hk_.2) e_))) (fun k_ hk_ => ⟨hk_.1.1.1.1.1.2, hk_.1.1.1.1.2, hk_.1.1.1.2, hk_.1.1.2⟩)); replace HO675 := zm (Kd.R_mono (ok' := fun k_ => some k_ ≠ (.slice Ao23 t653.length co23 : Value).ownBlock ∧ some k_ ≠ (.slice Ao35 t659.length co35 : Value).ownBlock ∧ some k_ ≠ (.slice Ao29 t662.length co29 : Value).ownBlock ∧ some k_ ≠ (.slice Ao34 t669.length co34 : Value).ownBlock) (Kd.R_keptB ((Kd.R_apart' HO675.out (Kd.R_typed HO667.out) (by decide))) hkp (fun k_ hk_ hs_ => Or.elim hs_ (fun e_ => (hk_.1.1.2) e_) (fun e_ => (hk_.2) e_))) (fun k_ hk_ => ⟨hk_.1.1.1.1.1.2, hk_.1.1.1.1.2, hk_.1.1.1.2, hk_.1.1.2⟩)); replace HO667 := zm (Kd.R_reok rfl hy1 (fun k_ e_ => HO667.out.1 k_ e_)); replace HO678 := zm (Kd.R_mono (ok' := fun k_ => some k_ ≠ (.slice Ao24 t656.length co24 : Value).ownBlock ∧ some k_ ≠ (.slice Ao32 t665.length co32 : Value).ownBlock) (Kd.R_keptB ((Kd.R_apart' HO678.out (Kd.R_typed HO664.out) (by decide))) hkp (fun k_ hk_ hs_ => Or.elim hs_ (fun e_ => (hk_.2) e_) (fun e_ => (hk_.1.2) e_))) (fun k_ hk_ => ⟨hk_.1.1.1.2, hk_.1.1.2⟩)); replace HO664 := zm (Kd.R_reok rfl hy0 (fun k_ e_ => HO664.out.1 k_ e_)); replace HB := zm (hb); clear hb hkp hy0; (try clear hy1)))
    (try simp only [Act.put, List.setIfInBounds_toArray, List.set_cons_zero, List.set_cons_succ])
    go_cut [42] (fun v42 wc => ∃ (kq : Nat) (x42_16 : Bool), v42 = .bool x42_16 ∧ Aside0 (laws_FnExactView.j0 kq t659 t669 x42_16 l0_0 l0_1 = some r) ∧ Aside0 (kq ≤ k) ∧ Aside0 (Kd.R k84 84 wc w.heap.size (fun k_ => some k_ ≠ ((.slice Ao34 t669.length co34) : Value).ownBlock ∧ some k_ ≠ ((.slice Ao29 t662.length co29) : Value).ownBlock) (.slice Ao35 t659.length co35) t659) ∧ Aside0 (Kd.R k84 84 wc w.heap.size (fun k_ => some k_ ≠ ((.slice Ao35 t659.length co35) : Value).ownBlock ∧ some k_ ≠ ((.slice Ao29 t662.length co29) : Value).ownBlock) (.slice Ao34 t669.length co34) t669) ∧ Aside0 (Kd.R k84 84 wc w.heap.size (fun k_ => some k_ ≠ ((.slice Ao35 t659.length co35) : Value).ownBlock ∧ some k_ ≠ ((.slice Ao34 t669.length co34) : Value).ownBlock) (.slice Ao29 t662.length co29) t681) ∧ Aside0 (Kd.R k89 89 wc w.heap.size (fun _ => True) (.slice Ao32 t665.length co32) t682) ∧ Aside0 (wc.heap[gb651]? = some (.cells #[(.slice A0_0 l0_0.length c0_0), (.slice A0_1 l0_1.length c0_1)] 48 (0, 0))) ∧ Aside0 (wc.heap[gb668]? = some (.cells #[(.slice Ao29 t662.length co29), (.slice Ao32 t665.length co32)] 55 (0, 0))) ∧ Aside0 (Below w.heap.size w wc))
    case first =>
     have H := HC17.out
     clear HC17
     by_cases c44 : t680 < 0
     ·rw [if_pos c44] at H
      have c44b0 : decide (t680 < 0) = true := decide_eq_true c44
      clear c44
      (first | rw [c44b0] | (simp only [i64_w, i32_w]; rw [c44b0]) | skip)
      have H' := zm H
      clear H
      go_wp2
      go_meet
      case rel => exact ⟨_, (true), zF, H', ⟨by first | omega | exact Nat.le_refl _⟩, ⟨by (with_reducible repeat (first | apply Kd.R_alloc | apply Kd.R_drewN | apply Kd.R_drew)); exact Kd.R_mono HO661.out (fun _ hk => ⟨hk.2.2.1, hk.2.1⟩)⟩, ⟨by (with_reducible repeat (first | apply Kd.R_alloc | apply Kd.R_drewN | apply Kd.R_drew)); exact Kd.R_mono HO671.out (fun _ hk => ⟨hk.2.1, hk.2.2.1⟩)⟩, ⟨by (with_reducible repeat (first | apply Kd.R_alloc | apply Kd.R_drewN | apply Kd.R_drew)); exact Kd.R_mono HO664.out (fun _ hk => ⟨hk.1.1.2, hk.1.2⟩)⟩, ⟨by (with_reducible repeat (first | apply Kd.R_alloc | apply Kd.R_drewN | apply Kd.R_drew)); exact Kd.R_mono HO667.out (fun _ hk => trivial)⟩, ⟨zb BK651⟩, ⟨zb BK668⟩, ⟨zB⟩⟩
     ·rw [if_neg c44] at H
      have c44b0 : decide (t680 < 0) = false := decide_eq_false c44
      clear c44
      (first | rw [c44b0] | (simp only [i64_w, i32_w]; rw [c44b0]) | skip)
      replace H := Option.bind_eq_some_iff.mp H
      obtain ⟨t683, A450, H⟩ := H
      replace H : (laws_FnExactView.j0 k t659 t669 (!t683) l0_0 l0_1) = some r := H
      have A45 := zm A450
      clear A450
      have H' := zm H
      clear H
      go_wp2_with (first | (go_at_call 56; (with_reducible refine (laws_eqItemS.calls k _ _ t669 _ _ t659 t683 _ ?side1 ?side2 ?side3 ?side4 A45.out).mono ?_); (case side1 => repeat (first | exact (Kd.R_reads' HO671.out).2.2 | (with_reducible refine Kd.C_alloc ?_ _) | (with_reducible refine Kd.C_drewN ?_ _) | (with_reducible refine Kd.C_drew ?_))); (case side2 => exact (Kd.R_reads' HO671.out).2.1); (case side3 => repeat (first | exact (Kd.R_reads' HO661.out).2.2 | (with_reducible refine Kd.C_alloc ?_ _) | (with_reducible refine Kd.C_drewN ?_ _) | (with_reducible refine Kd.C_drew ?_))); (case side4 => exact (Kd.R_reads' HO661.out).2.1); rintro e w46 ⟨rfl, hb⟩; replace HO655 := zm (Kd.R_below (zr HO655) hb); replace HO658 := zm (Kd.R_below (zr HO658) hb); replace HO661 := zm (Kd.R_below (zr HO661) hb); replace HO664 := zm (Kd.R_below (zr HO664) hb); replace HO667 := zm (Kd.R_below (zr HO667) hb); replace HO671 := zm (Kd.R_below (zr HO671) hb); replace HO675 := zm (Kd.R_below (zr HO675) hb); replace HO678 := zm (Kd.R_below (zr HO678) hb); replace BK651 := zm (blk_below (zb BK651) hb); replace BK668 := zm (blk_below (zb BK668) hb); replace HB := zm (below_step zB hb); clear hb))
      go_meet
      case rel => exact ⟨_, (!t683), zF, H', ⟨by first | omega | exact Nat.le_refl _⟩, ⟨by (with_reducible repeat (first | apply Kd.R_alloc | apply Kd.R_drewN | apply Kd.R_drew)); exact Kd.R_mono HO661.out (fun _ hk => ⟨hk.2.2.1, hk.2.1⟩)⟩, ⟨by (with_reducible repeat (first | apply Kd.R_alloc | apply Kd.R_drewN | apply Kd.R_drew)); exact Kd.R_mono HO671.out (fun _ hk => ⟨hk.2.1, hk.2.2.1⟩)⟩, ⟨by (with_reducible repeat (first | apply Kd.R_alloc | apply Kd.R_drewN | apply Kd.R_drew)); exact Kd.R_mono HO664.out (fun _ hk => ⟨hk.1.1.2, hk.1.2⟩)⟩, ⟨by (with_reducible repeat (first | apply Kd.R_alloc | apply Kd.R_drewN | apply Kd.R_drew)); exact Kd.R_mono HO667.out (fun _ hk => trivial)⟩, ⟨zb BK651⟩, ⟨zb BK668⟩, ⟨zB⟩⟩
    case rest =>
     clear HC17
     try clear c1
     try clear p2
     try clear c3
     try clear c3b0
     try clear c4
     try clear c5
     try clear c12
     try clear c13
     try clear c15
     try clear c30
     try clear c35
     try clear c37
     try clear c39
     try clear c44
     try clear c44b0
     try clear hcz19_0
     try clear hcz19_1
     try clear hcz21_0
     try clear hcz21_1
     try clear hcz26_0
     try clear hcz26_1
     try clear hcz31_0
     try clear hcz31_1
     try clear hcz42_0
     try clear hcz42_1
     try clear hcz5_0
     try clear hcz5_1
     try clear hfz19_0
     try clear hfz19_1
     try clear hfz21_0
     try clear hfz21_1
     try clear hfz26_0
     try clear hfz26_1
     try clear hfz31_0
     try clear hfz31_1
     try clear hfz42_0
     try clear hfz42_1
     try clear hfz5_0
     try clear hfz5_1
     obtain ⟨kq, x42_16, rfl, HA, HJ16, HO_4, HO_6, HO_669000, HO_669001, BK651, BK668, HB⟩ := hcut
     have hl669000_16 := (Kd.R_reads' HO_669000.out).1
     rw [hl669000_16] at HO_669000
     (try simp only [hl669000_16])
     (try simp only [hl669000_16] at BK651)
     (try simp only [hl669000_16] at BK668)
     (try simp only [hl669000_16] at HO_4)
     (try simp only [hl669000_16] at HO_6)
     (try simp only [hl669000_16] at HO_669001)
     have hl669001_16 := (Kd.R_reads' HO_669001.out).1
     rw [hl669001_16] at HO_669001
     (try simp only [hl669001_16])
     (try simp only [hl669001_16] at BK651)
     (try simp only [hl669001_16] at BK668)
     (try simp only [hl669001_16] at HO_4)
     (try simp only [hl669001_16] at HO_6)
     (try simp only [hl669001_16] at HO_669000)
     cases kq with
     | zero => exact absurd HA.out (by simp [laws_FnExactView.j0])
     | succ kj16 =>
      have H := HA.out
      clear HA
      simp only [laws_FnExactView.j0] at H
      by_cases c47 : x42_16 = true
      ·subst c47
       have H1 : (some false) = some r := by rw [if_pos rfl] at H; exact H
       clear H
       have H := H1
       clear H1
       obtain rfl := Option.some.inj H
       go_wp2
       go_ret
       exact ⟨zE, zB⟩
      ·replace c47 := Bool.eq_false_iff.mpr c47
       subst c47
       have H1 : ((laws_markItemS.f kj16 t669 1).bind fun bt684 => ((laws_heldItemS.f kj16 bt684.2 1).bind fun t686 => (if t686 < 0 then (some false) else (if t686 = bt684.1 then ((laws_toState.f kj16 l0_0 l0_1).bind fun bt687 => ((impl_View.f kj16 bt687.1 bt687.2).bind fun t693 => ((laws_eqItemS.f kj16 t693 t659).bind fun t696 => (if t696 = true then ((laws_heldItemS.f kj16 bt684.2 1).bind fun t697 => (if t697 < 0 then (some false) else (if t697 = bt684.1 then (some true) else (some false)))) else (some false))))) else (some false))))) = some r := by rw [if_neg (show ¬ (false = true) by decide)] at H; exact H
       clear H
       have H := H1
       clear H1
       replace H := Option.bind_eq_some_iff.mp H
       obtain ⟨⟨t684, t685⟩, A480, H⟩ := H
       replace H : ((laws_heldItemS.f kj16 t685 1).bind fun t686 => (if t686 < 0 then (some false) else (if t686 = t684 then ((laws_toState.f kj16 l0_0 l0_1).bind fun bt687 => ((impl_View.f kj16 bt687.1 bt687.2).bind fun t693 => ((laws_eqItemS.f kj16 t693 t659).bind fun t696 => (if t696 = true then ((laws_heldItemS.f kj16 t685 1).bind fun t697 => (if t697 < 0 then (some false) else (if t697 = t684 then (some true) else (some false)))) else (some false))))) else (some false)))) = some r := H
       have A48 := zm A480
       clear A480
       replace H := Option.bind_eq_some_iff.mp H
       obtain ⟨t686, A490, H⟩ := H
       replace H : (if t686 < 0 then (some false) else (if t686 = t684 then ((laws_toState.f kj16 l0_0 l0_1).bind fun bt687 => ((impl_View.f kj16 bt687.1 bt687.2).bind fun t693 => ((laws_eqItemS.f kj16 t693 t659).bind fun t696 => (if t696 = true then ((laws_heldItemS.f kj16 t685 1).bind fun t697 => (if t697 < 0 then (some false) else (if t697 = t684 then (some true) else (some false)))) else (some false))))) else (some false))) = some r := H
       have A49 := zm A490
       clear A490
       by_cases c50 : t686 < 0
       ·rw [if_pos c50] at H
        have c50b0 : decide (t686 < 0) = true := decide_eq_true c50
        clear c50
        obtain rfl := Option.some.inj H
        go_wp2_with (first | ((with_reducible refine gate_callee (f := 57) rfl ?_); refine zg (some 45) #[.slice Ao34 t669.length co34, .int .i64 1] Try.func57 ?_; (with_reducible refine (laws_markItemS.calls kj16 (fun k_ => some k_ = (.slice Ao34 t669.length co34 : Value).ownBlock) (.slice Ao34 t669.length co34) t669 1 t684 t685 w _ zB ?side2 A48.out).mono ?_); (case side2 => exact Kd.R_tight rfl HO_6.out); rintro e w51 ⟨rfl, hy0, hb, hkp⟩; refine ⟨_, rfl, ?_⟩; replace HO_4 := zm (Kd.R_mono (ok' := fun k_ => some k_ ≠ (.slice Ao34 t669.length co34 : Value).ownBlock ∧ some k_ ≠ (.slice Ao29 t681.length co29 : Value).ownBlock) (Kd.R_keptB (HO_4.out) hkp (fun k_ hk_ hs_ => (hk_.1) hs_)) (fun k_ hk_ => ⟨hk_.1.1, hk_.1.2⟩)); replace HO_669000 := zm (Kd.R_mono (ok' := fun k_ => some k_ ≠ (.slice Ao35 t659.length co35 : Value).ownBlock ∧ some k_ ≠ (.slice Ao34 t669.length co34 : Value).ownBlock) (Kd.R_keptB (HO_669000.out) hkp (fun k_ hk_ hs_ => (hk_.2) hs_)) (fun k_ hk_ => ⟨hk_.1.1, hk_.1.2⟩)); replace HO_669001 := zm (Kd.R_mono (ok' := fun k_ => True) (Kd.R_keptB ((Kd.R_apart' HO_669001.out (Kd.R_typed HO_6.out) (by decide))) hkp (fun k_ hk_ hs_ => (hk_.2) hs_)) (fun k_ hk_ => trivial)); replace BK651 := zm (blk_kept (zb BK651) hkp (fun hs_ => (fun e_ => (Kd.R_ne HO_6.out BK651.out (by decide)) e_) hs_)); replace BK668 := zm (blk_kept (zb BK668) hkp (fun hs_ => (fun e_ => (Kd.R_ne HO_6.out BK668.out (by decide)) e_) hs_)); replace HO_6 := zm (Kd.R_reok rfl hy0 (fun k_ e_ => HO_6.out.1 k_ e_)); replace HB := zm (hb); clear hb hkp hy0) | ((with_reducible refine gate_callee (f := 58) rfl ?_); refine goesL_ (some 48) rfl rfl Try.func58 (by kernel_rfl) rfl #[.slice Ao34 t685.length co34, .int .i64 1] rfl (by (try simp only [List.map_toArray, List.map_cons, List.map_nil]); first | done | (rw [show t685.length = t669.length from (Kd.R_reads' HO_6.out).1.symm] <;> rfl) | rfl | (simp only [List.length_drop, List.length_take]; rfl)) ?_; (with_reducible refine (laws_heldItemS.calls kj16 _ _ t685 1 t686 _ ?side1 ?side2 A49.out).mono ?_); (case side1 => repeat (first | exact (Kd.R_reads' HO_6.out).2.2 | (with_reducible refine Kd.C_alloc ?_ _) | (with_reducible refine Kd.C_drewN ?_ _) | (with_reducible refine Kd.C_drew ?_))); (case side2 => rw [show t685.length = t669.length from (Kd.R_reads' HO_6.out).1.symm]; exact (Kd.R_reads' HO_6.out).2.1); rintro e w52 ⟨rfl, hb⟩; refine ⟨_, rfl, ?_⟩; replace HO_4 := zm (Kd.R_below (zr HO_4) hb); replace HO_6 := zm (Kd.R_below (zr HO_6) hb); replace HO_669000 := zm (Kd.R_below (zr HO_669000) hb); replace HO_669001 := zm (Kd.R_below (zr HO_669001) hb); replace BK651 := zm (blk_below (zb BK651) hb); replace BK668 := zm (blk_below (zb BK668) hb); replace HB := zm (below_step zB hb); clear hb))
        go_ret
        exact ⟨zE, zB⟩
       ·rw [if_neg c50] at H
        have c50b0 : decide (t686 < 0) = false := decide_eq_false c50
        clear c50
        by_cases c53 : t686 = t684
        ·rw [if_pos c53] at H
         have c53b0 : (t686 == t684) = true := beq_iff_eq.mpr c53
         have c53b1 : (t686 != t684) = false := bne_eq_false_iff_eq.mpr c53
         clear c53
         replace H := Option.bind_eq_some_iff.mp H
         obtain ⟨⟨t687, t690⟩, A540, H⟩ := H
         replace H : ((impl_View.f kj16 t687 t690).bind fun t693 => ((laws_eqItemS.f kj16 t693 t659).bind fun t696 => (if t696 = true then ((laws_heldItemS.f kj16 t685 1).bind fun t697 => (if t697 < 0 then (some false) else (if t697 = t684 then (some true) else (some false)))) else (some false)))) = some r := H
         have A54 := zm A540
         clear A540
         replace H := Option.bind_eq_some_iff.mp H
         obtain ⟨t693, A550, H⟩ := H
         replace H : ((laws_eqItemS.f kj16 t693 t659).bind fun t696 => (if t696 = true then ((laws_heldItemS.f kj16 t685 1).bind fun t697 => (if t697 < 0 then (some false) else (if t697 = t684 then (some true) else (some false)))) else (some false))) = some r := H
         have A55 := zm A550
         clear A550
         replace H := Option.bind_eq_some_iff.mp H
         obtain ⟨t696, A560, H⟩ := H
         replace H : (if t696 = true then ((laws_heldItemS.f kj16 t685 1).bind fun t697 => (if t697 < 0 then (some false) else (if t697 = t684 then (some true) else (some false)))) else (some false)) = some r := H
         have A56 := zm A560
         clear A560
         by_cases c57 : t696 = true
         ·subst c57
          have H1 : ((laws_heldItemS.f kj16 t685 1).bind fun t697 => (if t697 < 0 then (some false) else (if t697 = t684 then (some true) else (some false)))) = some r := by rw [if_pos rfl] at H; exact H
          clear H
          have H := H1
          clear H1
          replace H := Option.bind_eq_some_iff.mp H
          obtain ⟨t697, A580, H⟩ := H
          replace H : (if t697 < 0 then (some false) else (if t697 = t684 then (some true) else (some false))) = some r := H
          have A58 := zm A580
          clear A580
          by_cases c59 : t697 < 0
          ·rw [if_pos c59] at H
           have c59b0 : decide (t697 < 0) = true := decide_eq_true c59
           clear c59
           obtain rfl := Option.some.inj H
           go_wp2_with (first | ((with_reducible refine gate_callee (f := 57) rfl ?_); refine zg (some 45) #[.slice Ao34 t669.length co34, .int .i64 1] Try.func57 ?_; (with_reducible refine (laws_markItemS.calls kj16 (fun k_ => some k_ = (.slice Ao34 t669.length co34 : Value).ownBlock) (.slice Ao34 t669.length co34) t669 1 t684 t685 w _ zB ?side2 A48.out).mono ?_); (case side2 => exact Kd.R_tight rfl HO_6.out); rintro e w60 ⟨rfl, hy0, hb, hkp⟩; refine ⟨_, rfl, ?_⟩; replace HO_4 := zm (Kd.R_mono (ok' := fun k_ => some k_ ≠ (.slice Ao34 t669.length co34 : Value).ownBlock ∧ some k_ ≠ (.slice Ao29 t681.length co29 : Value).ownBlock) (Kd.R_keptB (HO_4.out) hkp (fun k_ hk_ hs_ => (hk_.1) hs_)) (fun k_ hk_ => ⟨hk_.1.1, hk_.1.2⟩)); replace HO_669000 := zm (Kd.R_mono (ok' := fun k_ => some k_ ≠ (.slice Ao35 t659.length co35 : Value).ownBlock ∧ some k_ ≠ (.slice Ao34 t669.length co34 : Value).ownBlock) (Kd.R_keptB (HO_669000.out) hkp (fun k_ hk_ hs_ => (hk_.2) hs_)) (fun k_ hk_ => ⟨hk_.1.1, hk_.1.2⟩)); replace HO_669001 := zm (Kd.R_mono (ok' := fun k_ => True) (Kd.R_keptB ((Kd.R_apart' HO_669001.out (Kd.R_typed HO_6.out) (by decide))) hkp (fun k_ hk_ hs_ => (hk_.2) hs_)) (fun k_ hk_ => trivial)); replace BK651 := zm (blk_kept (zb BK651) hkp (fun hs_ => (fun e_ => (Kd.R_ne HO_6.out BK651.out (by decide)) e_) hs_)); replace BK668 := zm (blk_kept (zb BK668) hkp (fun hs_ => (fun e_ => (Kd.R_ne HO_6.out BK668.out (by decide)) e_) hs_)); replace HO_6 := zm (Kd.R_reok rfl hy0 (fun k_ e_ => HO_6.out.1 k_ e_)); replace HB := zm (hb); clear hb hkp hy0) | ((with_reducible refine gate_callee (f := 58) rfl ?_); refine goesL_ (some 48) rfl rfl Try.func58 (by kernel_rfl) rfl #[.slice Ao34 t685.length co34, .int .i64 1] rfl (by (try simp only [List.map_toArray, List.map_cons, List.map_nil]); first | done | (rw [show t685.length = t669.length from (Kd.R_reads' HO_6.out).1.symm] <;> rfl) | rfl | (simp only [List.length_drop, List.length_take]; rfl)) ?_; (with_reducible refine (laws_heldItemS.calls kj16 _ _ t685 1 t686 _ ?side1 ?side2 A49.out).mono ?_); (case side1 => repeat (first | exact (Kd.R_reads' HO_6.out).2.2 | (with_reducible refine Kd.C_alloc ?_ _) | (with_reducible refine Kd.C_drewN ?_ _) | (with_reducible refine Kd.C_drew ?_))); (case side2 => rw [show t685.length = t669.length from (Kd.R_reads' HO_6.out).1.symm]; exact (Kd.R_reads' HO_6.out).2.1); rintro e w61 ⟨rfl, hb⟩; refine ⟨_, rfl, ?_⟩; replace HO_4 := zm (Kd.R_below (zr HO_4) hb); replace HO_6 := zm (Kd.R_below (zr HO_6) hb); replace HO_669000 := zm (Kd.R_below (zr HO_669000) hb); replace HO_669001 := zm (Kd.R_below (zr HO_669001) hb); replace BK651 := zm (blk_below (zb BK651) hb); replace BK668 := zm (blk_below (zb BK668) hb); replace HB := zm (below_step zB hb); clear hb; have hnb62 := NB651_668.out; have hnc62 := NB668_651.out; have hcz63_0 : w61.cell? ⟨gb651, 0, none⟩ = some (.slice A0_0 l0_0.length c0_0) := (blk_cell BK651.out 0).trans rfl; have hcz63_1 : w61.cell? ⟨gb651, 1, none⟩ = some (.slice A0_1 l0_1.length c0_1) := (blk_cell BK651.out 1).trans rfl; have hfz63_0 := blk_frozen BK651.out 0; have hfz63_1 := blk_frozen BK651.out 1) | ((with_reducible refine gate_callee (f := 37) rfl ?_); refine zg (some 55) #[.agg #[.slice A0_0 l0_0.length c0_0, .slice A0_1 l0_1.length c0_1]] Try.func37 ?_; (with_reducible refine (laws_toState.calls kj16 _ _ l0_0 _ _ l0_1 t687 t690 _ (zk (Kd.C_below HR0_0.out HB.out)) HC0_0.out (zk (Kd.C_below HR0_1.out HB.out)) HC0_1.out A54.out).mono ?_); rintro e w64 ⟨v688, v691, rfl, ho0, ho1, hb⟩; refine ⟨_, rfl, ?_⟩; have HO689 := zm (Kd.R_lower (Kd.R_new' (Kd.R_new' (Kd.R_new' ho0 (Kd.R_lt (zr HO_4))) (Kd.R_lt (zr HO_6))) (Kd.R_lt (zr HO_669000))) (below_size zB)); replace HO_4 := zm (Kd.R_elder' (zr HO_4) (Kd.R_base ho0) hb); replace HO_6 := zm (Kd.R_elder' (zr HO_6) (Kd.R_base ho0) hb); replace HO_669000 := zm (Kd.R_elder' (zr HO_669000) (Kd.R_base ho0) hb); have HO692 := zm (Kd.R_lower (Kd.R_new' ho1 (Kd.R_lt (zr HO_669001))) (below_size zB)); replace HO_669001 := zm (Kd.R_elder' (zr HO_669001) (Kd.R_base ho1) hb); replace BK651 := zm (blk_below (zb BK651) hb); replace BK668 := zm (blk_below (zb BK668) hb); replace HB := zm (below_step zB hb); clear hb ho0 ho1; obtain ⟨Ao65, co65, eo65⟩ := Kd.R_slice HO689.out; subst eo65; obtain ⟨Ao66, co66, eo66⟩ := Kd.R_slice HO692.out; subst eo66) | ((with_reducible refine gate_callee (f := 55) rfl ?_); refine zg (some 56) #[.agg #[.slice Ao65 t687.length co65, .slice Ao66 t690.length co66]] Try.func55 ?_; (with_reducible refine (impl_View.calls kj16 _ _ t687 _ _ t690 t693 _ ?side1 ?side2 ?side3 ?side4 A55.out).mono ?_); (case side1 => repeat (first | exact (Kd.R_reads' HO689.out).2.2 | (with_reducible refine Kd.C_alloc ?_ _) | (with_reducible refine Kd.C_drewN ?_ _) | (with_reducible refine Kd.C_drew ?_))); (case side2 => exact (Kd.R_reads' HO689.out).2.1); (case side3 => repeat (first | exact (Kd.R_reads' HO692.out).2.2 | (with_reducible refine Kd.C_alloc ?_ _) | (with_reducible refine Kd.C_drewN ?_ _) | (with_reducible refine Kd.C_drew ?_))); (case side4 => exact (Kd.R_reads' HO692.out).2.1); rintro e w67 ⟨v694, rfl, ho0, hb⟩; refine ⟨_, rfl, ?_⟩; replace HO_669001 := zm (Kd.R_below (zr HO_669001) hb); replace HO692 := zm (Kd.R_below (zr HO692) hb); have HO695 := zm (Kd.R_lower (Kd.R_new' (Kd.R_new' (Kd.R_new' (Kd.R_new' ho0 (Kd.R_lt (zr HO_4))) (Kd.R_lt (zr HO_6))) (Kd.R_lt (zr HO_669000))) (Kd.R_lt (zr HO689))) (below_size zB)); replace HO_4 := zm (Kd.R_elder' (zr HO_4) (Kd.R_base ho0) hb); replace HO_6 := zm (Kd.R_elder' (zr HO_6) (Kd.R_base ho0) hb); replace HO_669000 := zm (Kd.R_elder' (zr HO_669000) (Kd.R_base ho0) hb); replace HO689 := zm (Kd.R_elder' (zr HO689) (Kd.R_base ho0) hb); replace BK651 := zm (blk_below (zb BK651) hb); replace BK668 := zm (blk_below (zb BK668) hb); replace HB := zm (below_step zB hb); clear hb ho0; obtain ⟨Ao68, co68, eo68⟩ := Kd.R_slice HO695.out; subst eo68) | ((with_reducible refine gate_callee (f := 56) rfl ?_); refine zg (some 59) #[.slice Ao68 t693.length co68, .slice Ao35 t659.length co35] Try.func56 ?_; (with_reducible refine (laws_eqItemS.calls kj16 _ _ t693 _ _ t659 true _ ?side1 ?side2 ?side3 ?side4 A56.out).mono ?_); (case side1 => repeat (first | exact (Kd.R_reads' HO695.out).2.2 | (with_reducible refine Kd.C_alloc ?_ _) | (with_reducible refine Kd.C_drewN ?_ _) | (with_reducible refine Kd.C_drew ?_))); (case side2 => exact (Kd.R_reads' HO695.out).2.1); (case side3 => repeat (first | exact (Kd.R_reads' HO_4.out).2.2 | (with_reducible refine Kd.C_alloc ?_ _) | (with_reducible refine Kd.C_drewN ?_ _) | (with_reducible refine Kd.C_drew ?_))); (case side4 => exact (Kd.R_reads' HO_4.out).2.1); rintro e w69 ⟨rfl, hb⟩; refine ⟨_, rfl, ?_⟩; replace HO_4 := zm (Kd.R_below (zr HO_4) hb); replace HO_6 := zm (Kd.R_below (zr HO_6) hb); replace HO_669000 := zm (Kd.R_below (zr HO_669000) hb); replace HO_669001 := zm (Kd.R_below (zr HO_669001) hb); replace HO689 := zm (Kd.R_below (zr HO689) hb); replace HO692 := zm (Kd.R_below (zr HO692) hb); replace HO695 := zm (Kd.R_below (zr HO695) hb); replace BK651 := zm (blk_below (zb BK651) hb); replace BK668 := zm (blk_below (zb BK668) hb); replace HB := zm (below_step zB hb); clear hb) | ((with_reducible refine gate_callee (f := 58) rfl ?_); refine goesL_ (some 63) rfl rfl Try.func58 (by kernel_rfl) rfl #[.slice Ao34 t685.length co34, .int .i64 1] rfl (by (try simp only [List.map_toArray, List.map_cons, List.map_nil]); first | done | (rw [show t685.length = t669.length from (Kd.R_reads' HO_6.out).1.symm] <;> rfl) | rfl | (simp only [List.length_drop, List.length_take]; rfl)) ?_; (with_reducible refine (laws_heldItemS.calls kj16 _ _ t685 1 t697 _ ?side1 ?side2 A58.out).mono ?_); (case side1 => repeat (first | exact (Kd.R_reads' HO_6.out).2.2 | (with_reducible refine Kd.C_alloc ?_ _) | (with_reducible refine Kd.C_drewN ?_ _) | (with_reducible refine Kd.C_drew ?_))); (case side2 => rw [show t685.length = t669.length from (Kd.R_reads' HO_6.out).1.symm]; exact (Kd.R_reads' HO_6.out).2.1); rintro e w70 ⟨rfl, hb⟩; refine ⟨_, rfl, ?_⟩; replace HO_4 := zm (Kd.R_below (zr HO_4) hb); replace HO_6 := zm (Kd.R_below (zr HO_6) hb); replace HO_669000 := zm (Kd.R_below (zr HO_669000) hb); replace HO_669001 := zm (Kd.R_below (zr HO_669001) hb); replace HO689 := zm (Kd.R_below (zr HO689) hb); replace HO692 := zm (Kd.R_below (zr HO692) hb); replace HO695 := zm (Kd.R_below (zr HO695) hb); replace BK651 := zm (blk_below (zb BK651) hb); replace BK668 := zm (blk_below (zb BK668) hb); replace HB := zm (below_step zB hb); clear hb))
           go_ret
           exact ⟨zE, zB⟩
          ·rw [if_neg c59] at H
           have c59b0 : decide (t697 < 0) = false := decide_eq_false c59
           clear c59
           by_cases c71 : t697 = t684
           ·rw [if_pos c71] at H
            have c71b0 : (t697 == t684) = true := beq_iff_eq.mpr c71
            have c71b1 : (t697 != t684) = false := bne_eq_false_iff_eq.mpr c71
            clear c71
            obtain rfl := Option.some.inj H
            go_wp2_with (first | ((with_reducible refine gate_callee (f := 57) rfl ?_); refine zg (some 45) #[.slice Ao34 t669.length co34, .int .i64 1] Try.func57 ?_; (with_reducible refine (laws_markItemS.calls kj16 (fun k_ => some k_ = (.slice Ao34 t669.length co34 : Value).ownBlock) (.slice Ao34 t669.length co34) t669 1 t684 t685 w _ zB ?side2 A48.out).mono ?_); (case side2 => exact Kd.R_tight rfl HO_6.out); rintro e w72 ⟨rfl, hy0, hb, hkp⟩; refine ⟨_, rfl, ?_⟩; replace HO_4 := zm (Kd.R_mono (ok' := fun k_ => some k_ ≠ (.slice Ao34 t669.length co34 : Value).ownBlock ∧ some k_ ≠ (.slice Ao29 t681.length co29 : Value).ownBlock) (Kd.R_keptB (HO_4.out) hkp (fun k_ hk_ hs_ => (hk_.1) hs_)) (fun k_ hk_ => ⟨hk_.1.1, hk_.1.2⟩)); replace HO_669000 := zm (Kd.R_mono (ok' := fun k_ => some k_ ≠ (.slice Ao35 t659.length co35 : Value).ownBlock ∧ some k_ ≠ (.slice Ao34 t669.length co34 : Value).ownBlock) (Kd.R_keptB (HO_669000.out) hkp (fun k_ hk_ hs_ => (hk_.2) hs_)) (fun k_ hk_ => ⟨hk_.1.1, hk_.1.2⟩)); replace HO_669001 := zm (Kd.R_mono (ok' := fun k_ => True) (Kd.R_keptB ((Kd.R_apart' HO_669001.out (Kd.R_typed HO_6.out) (by decide))) hkp (fun k_ hk_ hs_ => (hk_.2) hs_)) (fun k_ hk_ => trivial)); replace BK651 := zm (blk_kept (zb BK651) hkp (fun hs_ => (fun e_ => (Kd.R_ne HO_6.out BK651.out (by decide)) e_) hs_)); replace BK668 := zm (blk_kept (zb BK668) hkp (fun hs_ => (fun e_ => (Kd.R_ne HO_6.out BK668.out (by decide)) e_) hs_)); replace HO_6 := zm (Kd.R_reok rfl hy0 (fun k_ e_ => HO_6.out.1 k_ e_)); replace HB := zm (hb); clear hb hkp hy0) | ((with_reducible refine gate_callee (f := 58) rfl ?_); refine goesL_ (some 48) rfl rfl Try.func58 (by kernel_rfl) rfl #[.slice Ao34 t685.length co34, .int .i64 1] rfl (by (try simp only [List.map_toArray, List.map_cons, List.map_nil]); first | done | (rw [show t685.length = t669.length from (Kd.R_reads' HO_6.out).1.symm] <;> rfl) | rfl | (simp only [List.length_drop, List.length_take]; rfl)) ?_; (with_reducible refine (laws_heldItemS.calls kj16 _ _ t685 1 t686 _ ?side1 ?side2 A49.out).mono ?_); (case side1 => repeat (first | exact (Kd.R_reads' HO_6.out).2.2 | (with_reducible refine Kd.C_alloc ?_ _) | (with_reducible refine Kd.C_drewN ?_ _) | (with_reducible refine Kd.C_drew ?_))); (case side2 => rw [show t685.length = t669.length from (Kd.R_reads' HO_6.out).1.symm]; exact (Kd.R_reads' HO_6.out).2.1); rintro e w73 ⟨rfl, hb⟩; refine ⟨_, rfl, ?_⟩; replace HO_4 := zm (Kd.R_below (zr HO_4) hb); replace HO_6 := zm (Kd.R_below (zr HO_6) hb); replace HO_669000 := zm (Kd.R_below (zr HO_669000) hb); replace HO_669001 := zm (Kd.R_below (zr HO_669001) hb); replace BK651 := zm (blk_below (zb BK651) hb); replace BK668 := zm (blk_below (zb BK668) hb); replace HB := zm (below_step zB hb); clear hb; have hnb74 := NB651_668.out; have hnc74 := NB668_651.out; have hcz75_0 : w73.cell? ⟨gb651, 0, none⟩ = some (.slice A0_0 l0_0.length c0_0) := (blk_cell BK651.out 0).trans rfl; have hcz75_1 : w73.cell? ⟨gb651, 1, none⟩ = some (.slice A0_1 l0_1.length c0_1) := (blk_cell BK651.out 1).trans rfl; have hfz75_0 := blk_frozen BK651.out 0; have hfz75_1 := blk_frozen BK651.out 1) | ((with_reducible refine gate_callee (f := 37) rfl ?_); refine zg (some 55) #[.agg #[.slice A0_0 l0_0.length c0_0, .slice A0_1 l0_1.length c0_1]] Try.func37 ?_; (with_reducible refine (laws_toState.calls kj16 _ _ l0_0 _ _ l0_1 t687 t690 _ (zk (Kd.C_below HR0_0.out HB.out)) HC0_0.out (zk (Kd.C_below HR0_1.out HB.out)) HC0_1.out A54.out).mono ?_); rintro e w76 ⟨v688, v691, rfl, ho0, ho1, hb⟩; refine ⟨_, rfl, ?_⟩; have HO689 := zm (Kd.R_lower (Kd.R_new' (Kd.R_new' (Kd.R_new' ho0 (Kd.R_lt (zr HO_4))) (Kd.R_lt (zr HO_6))) (Kd.R_lt (zr HO_669000))) (below_size zB)); replace HO_4 := zm (Kd.R_elder' (zr HO_4) (Kd.R_base ho0) hb); replace HO_6 := zm (Kd.R_elder' (zr HO_6) (Kd.R_base ho0) hb); replace HO_669000 := zm (Kd.R_elder' (zr HO_669000) (Kd.R_base ho0) hb); have HO692 := zm (Kd.R_lower (Kd.R_new' ho1 (Kd.R_lt (zr HO_669001))) (below_size zB)); replace HO_669001 := zm (Kd.R_elder' (zr HO_669001) (Kd.R_base ho1) hb); replace BK651 := zm (blk_below (zb BK651) hb); replace BK668 := zm (blk_below (zb BK668) hb); replace HB := zm (below_step zB hb); clear hb ho0 ho1; obtain ⟨Ao77, co77, eo77⟩ := Kd.R_slice HO689.out; subst eo77; obtain ⟨Ao78, co78, eo78⟩ := Kd.R_slice HO692.out; subst eo78) | ((with_reducible refine gate_callee (f := 55) rfl ?_); refine zg (some 56) #[.agg #[.slice Ao77 t687.length co77, .slice Ao78 t690.length co78]] Try.func55 ?_; (with_reducible refine (impl_View.calls kj16 _ _ t687 _ _ t690 t693 _ ?side1 ?side2 ?side3 ?side4 A55.out).mono ?_); (case side1 => repeat (first | exact (Kd.R_reads' HO689.out).2.2 | (with_reducible refine Kd.C_alloc ?_ _) | (with_reducible refine Kd.C_drewN ?_ _) | (with_reducible refine Kd.C_drew ?_))); (case side2 => exact (Kd.R_reads' HO689.out).2.1); (case side3 => repeat (first | exact (Kd.R_reads' HO692.out).2.2 | (with_reducible refine Kd.C_alloc ?_ _) | (with_reducible refine Kd.C_drewN ?_ _) | (with_reducible refine Kd.C_drew ?_))); (case side4 => exact (Kd.R_reads' HO692.out).2.1); rintro e w79 ⟨v694, rfl, ho0, hb⟩; refine ⟨_, rfl, ?_⟩; replace HO_669001 := zm (Kd.R_below (zr HO_669001) hb); replace HO692 := zm (Kd.R_below (zr HO692) hb); have HO695 := zm (Kd.R_lower (Kd.R_new' (Kd.R_new' (Kd.R_new' (Kd.R_new' ho0 (Kd.R_lt (zr HO_4))) (Kd.R_lt (zr HO_6))) (Kd.R_lt (zr HO_669000))) (Kd.R_lt (zr HO689))) (below_size zB)); replace HO_4 := zm (Kd.R_elder' (zr HO_4) (Kd.R_base ho0) hb); replace HO_6 := zm (Kd.R_elder' (zr HO_6) (Kd.R_base ho0) hb); replace HO_669000 := zm (Kd.R_elder' (zr HO_669000) (Kd.R_base ho0) hb); replace HO689 := zm (Kd.R_elder' (zr HO689) (Kd.R_base ho0) hb); replace BK651 := zm (blk_below (zb BK651) hb); replace BK668 := zm (blk_below (zb BK668) hb); replace HB := zm (below_step zB hb); clear hb ho0; obtain ⟨Ao80, co80, eo80⟩ := Kd.R_slice HO695.out; subst eo80) | ((with_reducible refine gate_callee (f := 56) rfl ?_); refine zg (some 59) #[.slice Ao80 t693.length co80, .slice Ao35 t659.length co35] Try.func56 ?_; (with_reducible refine (laws_eqItemS.calls kj16 _ _ t693 _ _ t659 true _ ?side1 ?side2 ?side3 ?side4 A56.out).mono ?_); (case side1 => repeat (first | exact (Kd.R_reads' HO695.out).2.2 | (with_reducible refine Kd.C_alloc ?_ _) | (with_reducible refine Kd.C_drewN ?_ _) | (with_reducible refine Kd.C_drew ?_))); (case side2 => exact (Kd.R_reads' HO695.out).2.1); (case side3 => repeat (first | exact (Kd.R_reads' HO_4.out).2.2 | (with_reducible refine Kd.C_alloc ?_ _) | (with_reducible refine Kd.C_drewN ?_ _) | (with_reducible refine Kd.C_drew ?_))); (case side4 => exact (Kd.R_reads' HO_4.out).2.1); rintro e w81 ⟨rfl, hb⟩; refine ⟨_, rfl, ?_⟩; replace HO_4 := zm (Kd.R_below (zr HO_4) hb); replace HO_6 := zm (Kd.R_below (zr HO_6) hb); replace HO_669000 := zm (Kd.R_below (zr HO_669000) hb); replace HO_669001 := zm (Kd.R_below (zr HO_669001) hb); replace HO689 := zm (Kd.R_below (zr HO689) hb); replace HO692 := zm (Kd.R_below (zr HO692) hb); replace HO695 := zm (Kd.R_below (zr HO695) hb); replace BK651 := zm (blk_below (zb BK651) hb); replace BK668 := zm (blk_below (zb BK668) hb); replace HB := zm (below_step zB hb); clear hb) | ((with_reducible refine gate_callee (f := 58) rfl ?_); refine goesL_ (some 63) rfl rfl Try.func58 (by kernel_rfl) rfl #[.slice Ao34 t685.length co34, .int .i64 1] rfl (by (try simp only [List.map_toArray, List.map_cons, List.map_nil]); first | done | (rw [show t685.length = t669.length from (Kd.R_reads' HO_6.out).1.symm] <;> rfl) | rfl | (simp only [List.length_drop, List.length_take]; rfl)) ?_; (with_reducible refine (laws_heldItemS.calls kj16 _ _ t685 1 t697 _ ?side1 ?side2 A58.out).mono ?_); (case side1 => repeat (first | exact (Kd.R_reads' HO_6.out).2.2 | (with_reducible refine Kd.C_alloc ?_ _) | (with_reducible refine Kd.C_drewN ?_ _) | (with_reducible refine Kd.C_drew ?_))); (case side2 => rw [show t685.length = t669.length from (Kd.R_reads' HO_6.out).1.symm]; exact (Kd.R_reads' HO_6.out).2.1); rintro e w82 ⟨rfl, hb⟩; refine ⟨_, rfl, ?_⟩; replace HO_4 := zm (Kd.R_below (zr HO_4) hb); replace HO_6 := zm (Kd.R_below (zr HO_6) hb); replace HO_669000 := zm (Kd.R_below (zr HO_669000) hb); replace HO_669001 := zm (Kd.R_below (zr HO_669001) hb); replace HO689 := zm (Kd.R_below (zr HO689) hb); replace HO692 := zm (Kd.R_below (zr HO692) hb); replace HO695 := zm (Kd.R_below (zr HO695) hb); replace BK651 := zm (blk_below (zb BK651) hb); replace BK668 := zm (blk_below (zb BK668) hb); replace HB := zm (below_step zB hb); clear hb))
            go_ret
            exact ⟨zE, zB⟩
           ·rw [if_neg c71] at H
            have c71b0 : (t697 == t684) = false := beq_eq_false_iff_ne.mpr c71
            have c71b1 : (t697 != t684) = true := bne_iff_ne.mpr c71
            obtain rfl := Option.some.inj H
            go_wp2_with (first | ((with_reducible refine gate_callee (f := 57) rfl ?_); refine zg (some 45) #[.slice Ao34 t669.length co34, .int .i64 1] Try.func57 ?_; (with_reducible refine (laws_markItemS.calls kj16 (fun k_ => some k_ = (.slice Ao34 t669.length co34 : Value).ownBlock) (.slice Ao34 t669.length co34) t669 1 t684 t685 w _ zB ?side2 A48.out).mono ?_); (case side2 => exact Kd.R_tight rfl HO_6.out); rintro e w83 ⟨rfl, hy0, hb, hkp⟩; refine ⟨_, rfl, ?_⟩; replace HO_4 := zm (Kd.R_mono (ok' := fun k_ => some k_ ≠ (.slice Ao34 t669.length co34 : Value).ownBlock ∧ some k_ ≠ (.slice Ao29 t681.length co29 : Value).ownBlock) (Kd.R_keptB (HO_4.out) hkp (fun k_ hk_ hs_ => (hk_.1) hs_)) (fun k_ hk_ => ⟨hk_.1.1, hk_.1.2⟩)); replace HO_669000 := zm (Kd.R_mono (ok' := fun k_ => some k_ ≠ (.slice Ao35 t659.length co35 : Value).ownBlock ∧ some k_ ≠ (.slice Ao34 t669.length co34 : Value).ownBlock) (Kd.R_keptB (HO_669000.out) hkp (fun k_ hk_ hs_ => (hk_.2) hs_)) (fun k_ hk_ => ⟨hk_.1.1, hk_.1.2⟩)); replace HO_669001 := zm (Kd.R_mono (ok' := fun k_ => True) (Kd.R_keptB ((Kd.R_apart' HO_669001.out (Kd.R_typed HO_6.out) (by decide))) hkp (fun k_ hk_ hs_ => (hk_.2) hs_)) (fun k_ hk_ => trivial)); replace BK651 := zm (blk_kept (zb BK651) hkp (fun hs_ => (fun e_ => (Kd.R_ne HO_6.out BK651.out (by decide)) e_) hs_)); replace BK668 := zm (blk_kept (zb BK668) hkp (fun hs_ => (fun e_ => (Kd.R_ne HO_6.out BK668.out (by decide)) e_) hs_)); replace HO_6 := zm (Kd.R_reok rfl hy0 (fun k_ e_ => HO_6.out.1 k_ e_)); replace HB := zm (hb); clear hb hkp hy0) | ((with_reducible refine gate_callee (f := 58) rfl ?_); refine goesL_ (some 48) rfl rfl Try.func58 (by kernel_rfl) rfl #[.slice Ao34 t685.length co34, .int .i64 1] rfl (by (try simp only [List.map_toArray, List.map_cons, List.map_nil]); first | done | (rw [show t685.length = t669.length from (Kd.R_reads' HO_6.out).1.symm] <;> rfl) | rfl | (simp only [List.length_drop, List.length_take]; rfl)) ?_; (with_reducible refine (laws_heldItemS.calls kj16 _ _ t685 1 t686 _ ?side1 ?side2 A49.out).mono ?_); (case side1 => repeat (first | exact (Kd.R_reads' HO_6.out).2.2 | (with_reducible refine Kd.C_alloc ?_ _) | (with_reducible refine Kd.C_drewN ?_ _) | (with_reducible refine Kd.C_drew ?_))); (case side2 => rw [show t685.length = t669.length from (Kd.R_reads' HO_6.out).1.symm]; exact (Kd.R_reads' HO_6.out).2.1); rintro e w84 ⟨rfl, hb⟩; refine ⟨_, rfl, ?_⟩; replace HO_4 := zm (Kd.R_below (zr HO_4) hb); replace HO_6 := zm (Kd.R_below (zr HO_6) hb); replace HO_669000 := zm (Kd.R_below (zr HO_669000) hb); replace HO_669001 := zm (Kd.R_below (zr HO_669001) hb); replace BK651 := zm (blk_below (zb BK651) hb); replace BK668 := zm (blk_below (zb BK668) hb); replace HB := zm (below_step zB hb); clear hb; have hnb85 := NB651_668.out; have hnc85 := NB668_651.out; have hcz86_0 : w84.cell? ⟨gb651, 0, none⟩ = some (.slice A0_0 l0_0.length c0_0) := (blk_cell BK651.out 0).trans rfl; have hcz86_1 : w84.cell? ⟨gb651, 1, none⟩ = some (.slice A0_1 l0_1.length c0_1) := (blk_cell BK651.out 1).trans rfl; have hfz86_0 := blk_frozen BK651.out 0; have hfz86_1 := blk_frozen BK651.out 1) | ((with_reducible refine gate_callee (f := 37) rfl ?_); refine zg (some 55) #[.agg #[.slice A0_0 l0_0.length c0_0, .slice A0_1 l0_1.length c0_1]] Try.func37 ?_; (with_reducible refine (laws_toState.calls kj16 _ _ l0_0 _ _ l0_1 t687 t690 _ (zk (Kd.C_below HR0_0.out HB.out)) HC0_0.out (zk (Kd.C_below HR0_1.out HB.out)) HC0_1.out A54.out).mono ?_); rintro e w87 ⟨v688, v691, rfl, ho0, ho1, hb⟩; refine ⟨_, rfl, ?_⟩; have HO689 := zm (Kd.R_lower (Kd.R_new' (Kd.R_new' (Kd.R_new' ho0 (Kd.R_lt (zr HO_4))) (Kd.R_lt (zr HO_6))) (Kd.R_lt (zr HO_669000))) (below_size zB)); replace HO_4 := zm (Kd.R_elder' (zr HO_4) (Kd.R_base ho0) hb); replace HO_6 := zm (Kd.R_elder' (zr HO_6) (Kd.R_base ho0) hb); replace HO_669000 := zm (Kd.R_elder' (zr HO_669000) (Kd.R_base ho0) hb); have HO692 := zm (Kd.R_lower (Kd.R_new' ho1 (Kd.R_lt (zr HO_669001))) (below_size zB)); replace HO_669001 := zm (Kd.R_elder' (zr HO_669001) (Kd.R_base ho1) hb); replace BK651 := zm (blk_below (zb BK651) hb); replace BK668 := zm (blk_below (zb BK668) hb); replace HB := zm (below_step zB hb); clear hb ho0 ho1; obtain ⟨Ao88, co88, eo88⟩ := Kd.R_slice HO689.out; subst eo88; obtain ⟨Ao89, co89, eo89⟩ := Kd.R_slice HO692.out; subst eo89) | ((with_reducible refine gate_callee (f := 55) rfl ?_); refine zg (some 56) #[.agg #[.slice Ao88 t687.length co88, .slice Ao89 t690.length co89]] Try.func55 ?_; (with_reducible refine (impl_View.calls kj16 _ _ t687 _ _ t690 t693 _ ?side1 ?side2 ?side3 ?side4 A55.out).mono ?_); (case side1 => repeat (first | exact (Kd.R_reads' HO689.out).2.2 | (with_reducible refine Kd.C_alloc ?_ _) | (with_reducible refine Kd.C_drewN ?_ _) | (with_reducible refine Kd.C_drew ?_))); (case side2 => exact (Kd.R_reads' HO689.out).2.1); (case side3 => repeat (first | exact (Kd.R_reads' HO692.out).2.2 | (with_reducible refine Kd.C_alloc ?_ _) | (with_reducible refine Kd.C_drewN ?_ _) | (with_reducible refine Kd.C_drew ?_))); (case side4 => exact (Kd.R_reads' HO692.out).2.1); rintro e w90 ⟨v694, rfl, ho0, hb⟩; refine ⟨_, rfl, ?_⟩; replace HO_669001 := zm (Kd.R_below (zr HO_669001) hb); replace HO692 := zm (Kd.R_below (zr HO692) hb); have HO695 := zm (Kd.R_lower (Kd.R_new' (Kd.R_new' (Kd.R_new' (Kd.R_new' ho0 (Kd.R_lt (zr HO_4))) (Kd.R_lt (zr HO_6))) (Kd.R_lt (zr HO_669000))) (Kd.R_lt (zr HO689))) (below_size zB)); replace HO_4 := zm (Kd.R_elder' (zr HO_4) (Kd.R_base ho0) hb); replace HO_6 := zm (Kd.R_elder' (zr HO_6) (Kd.R_base ho0) hb); replace HO_669000 := zm (Kd.R_elder' (zr HO_669000) (Kd.R_base ho0) hb); replace HO689 := zm (Kd.R_elder' (zr HO689) (Kd.R_base ho0) hb); replace BK651 := zm (blk_below (zb BK651) hb); replace BK668 := zm (blk_below (zb BK668) hb); replace HB := zm (below_step zB hb); clear hb ho0; obtain ⟨Ao91, co91, eo91⟩ := Kd.R_slice HO695.out; subst eo91) | ((with_reducible refine gate_callee (f := 56) rfl ?_); refine zg (some 59) #[.slice Ao91 t693.length co91, .slice Ao35 t659.length co35] Try.func56 ?_; (with_reducible refine (laws_eqItemS.calls kj16 _ _ t693 _ _ t659 true _ ?side1 ?side2 ?side3 ?side4 A56.out).mono ?_); (case side1 => repeat (first | exact (Kd.R_reads' HO695.out).2.2 | (with_reducible refine Kd.C_alloc ?_ _) | (with_reducible refine Kd.C_drewN ?_ _) | (with_reducible refine Kd.C_drew ?_))); (case side2 => exact (Kd.R_reads' HO695.out).2.1); (case side3 => repeat (first | exact (Kd.R_reads' HO_4.out).2.2 | (with_reducible refine Kd.C_alloc ?_ _) | (with_reducible refine Kd.C_drewN ?_ _) | (with_reducible refine Kd.C_drew ?_))); (case side4 => exact (Kd.R_reads' HO_4.out).2.1); rintro e w92 ⟨rfl, hb⟩; refine ⟨_, rfl, ?_⟩; replace HO_4 := zm (Kd.R_below (zr HO_4) hb); replace HO_6 := zm (Kd.R_below (zr HO_6) hb); replace HO_669000 := zm (Kd.R_below (zr HO_669000) hb); replace HO_669001 := zm (Kd.R_below (zr HO_669001) hb); replace HO689 := zm (Kd.R_below (zr HO689) hb); replace HO692 := zm (Kd.R_below (zr HO692) hb); replace HO695 := zm (Kd.R_below (zr HO695) hb); replace BK651 := zm (blk_below (zb BK651) hb); replace BK668 := zm (blk_below (zb BK668) hb); replace HB := zm (below_step zB hb); clear hb) | ((with_reducible refine gate_callee (f := 58) rfl ?_); refine goesL_ (some 63) rfl rfl Try.func58 (by kernel_rfl) rfl #[.slice Ao34 t685.length co34, .int .i64 1] rfl (by (try simp only [List.map_toArray, List.map_cons, List.map_nil]); first | done | (rw [show t685.length = t669.length from (Kd.R_reads' HO_6.out).1.symm] <;> rfl) | rfl | (simp only [List.length_drop, List.length_take]; rfl)) ?_; (with_reducible refine (laws_heldItemS.calls kj16 _ _ t685 1 t697 _ ?side1 ?side2 A58.out).mono ?_); (case side1 => repeat (first | exact (Kd.R_reads' HO_6.out).2.2 | (with_reducible refine Kd.C_alloc ?_ _) | (with_reducible refine Kd.C_drewN ?_ _) | (with_reducible refine Kd.C_drew ?_))); (case side2 => rw [show t685.length = t669.length from (Kd.R_reads' HO_6.out).1.symm]; exact (Kd.R_reads' HO_6.out).2.1); rintro e w93 ⟨rfl, hb⟩; refine ⟨_, rfl, ?_⟩; replace HO_4 := zm (Kd.R_below (zr HO_4) hb); replace HO_6 := zm (Kd.R_below (zr HO_6) hb); replace HO_669000 := zm (Kd.R_below (zr HO_669000) hb); replace HO_669001 := zm (Kd.R_below (zr HO_669001) hb); replace HO689 := zm (Kd.R_below (zr HO689) hb); replace HO692 := zm (Kd.R_below (zr HO692) hb); replace HO695 := zm (Kd.R_below (zr HO695) hb); replace BK651 := zm (blk_below (zb BK651) hb); replace BK668 := zm (blk_below (zb BK668) hb); replace HB := zm (below_step zB hb); clear hb))
            go_ret
            exact ⟨zE, zB⟩
         ·replace c57 := Bool.eq_false_iff.mpr c57
          subst c57
          have H1 : (some false) = some r := by rw [if_neg (show ¬ (false = true) by decide)] at H; exact H
          clear H
          have H := H1
          clear H1
          obtain rfl := Option.some.inj H
          go_wp2_with (first | ((with_reducible refine gate_callee (f := 57) rfl ?_); refine zg (some 45) #[.slice Ao34 t669.length co34, .int .i64 1] Try.func57 ?_; (with_reducible refine (laws_markItemS.calls kj16 (fun k_ => some k_ = (.slice Ao34 t669.length co34 : Value).ownBlock) (.slice Ao34 t669.length co34) t669 1 t684 t685 w _ zB ?side2 A48.out).mono ?_); (case side2 => exact Kd.R_tight rfl HO_6.out); rintro e w94 ⟨rfl, hy0, hb, hkp⟩; refine ⟨_, rfl, ?_⟩; replace HO_4 := zm (Kd.R_mono (ok' := fun k_ => some k_ ≠ (.slice Ao34 t669.length co34 : Value).ownBlock ∧ some k_ ≠ (.slice Ao29 t681.length co29 : Value).ownBlock) (Kd.R_keptB (HO_4.out) hkp (fun k_ hk_ hs_ => (hk_.1) hs_)) (fun k_ hk_ => ⟨hk_.1.1, hk_.1.2⟩)); replace HO_669000 := zm (Kd.R_mono (ok' := fun k_ => some k_ ≠ (.slice Ao35 t659.length co35 : Value).ownBlock ∧ some k_ ≠ (.slice Ao34 t669.length co34 : Value).ownBlock) (Kd.R_keptB (HO_669000.out) hkp (fun k_ hk_ hs_ => (hk_.2) hs_)) (fun k_ hk_ => ⟨hk_.1.1, hk_.1.2⟩)); replace HO_669001 := zm (Kd.R_mono (ok' := fun k_ => True) (Kd.R_keptB ((Kd.R_apart' HO_669001.out (Kd.R_typed HO_6.out) (by decide))) hkp (fun k_ hk_ hs_ => (hk_.2) hs_)) (fun k_ hk_ => trivial)); replace BK651 := zm (blk_kept (zb BK651) hkp (fun hs_ => (fun e_ => (Kd.R_ne HO_6.out BK651.out (by decide)) e_) hs_)); replace BK668 := zm (blk_kept (zb BK668) hkp (fun hs_ => (fun e_ => (Kd.R_ne HO_6.out BK668.out (by decide)) e_) hs_)); replace HO_6 := zm (Kd.R_reok rfl hy0 (fun k_ e_ => HO_6.out.1 k_ e_)); replace HB := zm (hb); clear hb hkp hy0) | ((with_reducible refine gate_callee (f := 58) rfl ?_); refine goesL_ (some 48) rfl rfl Try.func58 (by kernel_rfl) rfl #[.slice Ao34 t685.length co34, .int .i64 1] rfl (by (try simp only [List.map_toArray, List.map_cons, List.map_nil]); first | done | (rw [show t685.length = t669.length from (Kd.R_reads' HO_6.out).1.symm] <;> rfl) | rfl | (simp only [List.length_drop, List.length_take]; rfl)) ?_; (with_reducible refine (laws_heldItemS.calls kj16 _ _ t685 1 t686 _ ?side1 ?side2 A49.out).mono ?_); (case side1 => repeat (first | exact (Kd.R_reads' HO_6.out).2.2 | (with_reducible refine Kd.C_alloc ?_ _) | (with_reducible refine Kd.C_drewN ?_ _) | (with_reducible refine Kd.C_drew ?_))); (case side2 => rw [show t685.length = t669.length from (Kd.R_reads' HO_6.out).1.symm]; exact (Kd.R_reads' HO_6.out).2.1); rintro e w95 ⟨rfl, hb⟩; refine ⟨_, rfl, ?_⟩; replace HO_4 := zm (Kd.R_below (zr HO_4) hb); replace HO_6 := zm (Kd.R_below (zr HO_6) hb); replace HO_669000 := zm (Kd.R_below (zr HO_669000) hb); replace HO_669001 := zm (Kd.R_below (zr HO_669001) hb); replace BK651 := zm (blk_below (zb BK651) hb); replace BK668 := zm (blk_below (zb BK668) hb); replace HB := zm (below_step zB hb); clear hb; have hnb96 := NB651_668.out; have hnc96 := NB668_651.out; have hcz97_0 : w95.cell? ⟨gb651, 0, none⟩ = some (.slice A0_0 l0_0.length c0_0) := (blk_cell BK651.out 0).trans rfl; have hcz97_1 : w95.cell? ⟨gb651, 1, none⟩ = some (.slice A0_1 l0_1.length c0_1) := (blk_cell BK651.out 1).trans rfl; have hfz97_0 := blk_frozen BK651.out 0; have hfz97_1 := blk_frozen BK651.out 1) | ((with_reducible refine gate_callee (f := 37) rfl ?_); refine zg (some 55) #[.agg #[.slice A0_0 l0_0.length c0_0, .slice A0_1 l0_1.length c0_1]] Try.func37 ?_; (with_reducible refine (laws_toState.calls kj16 _ _ l0_0 _ _ l0_1 t687 t690 _ (zk (Kd.C_below HR0_0.out HB.out)) HC0_0.out (zk (Kd.C_below HR0_1.out HB.out)) HC0_1.out A54.out).mono ?_); rintro e w98 ⟨v688, v691, rfl, ho0, ho1, hb⟩; refine ⟨_, rfl, ?_⟩; have HO689 := zm (Kd.R_lower (Kd.R_new' (Kd.R_new' (Kd.R_new' ho0 (Kd.R_lt (zr HO_4))) (Kd.R_lt (zr HO_6))) (Kd.R_lt (zr HO_669000))) (below_size zB)); replace HO_4 := zm (Kd.R_elder' (zr HO_4) (Kd.R_base ho0) hb); replace HO_6 := zm (Kd.R_elder' (zr HO_6) (Kd.R_base ho0) hb); replace HO_669000 := zm (Kd.R_elder' (zr HO_669000) (Kd.R_base ho0) hb); have HO692 := zm (Kd.R_lower (Kd.R_new' ho1 (Kd.R_lt (zr HO_669001))) (below_size zB)); replace HO_669001 := zm (Kd.R_elder' (zr HO_669001) (Kd.R_base ho1) hb); replace BK651 := zm (blk_below (zb BK651) hb); replace BK668 := zm (blk_below (zb BK668) hb); replace HB := zm (below_step zB hb); clear hb ho0 ho1; obtain ⟨Ao99, co99, eo99⟩ := Kd.R_slice HO689.out; subst eo99; obtain ⟨Ao100, co100, eo100⟩ := Kd.R_slice HO692.out; subst eo100) | ((with_reducible refine gate_callee (f := 55) rfl ?_); refine zg (some 56) #[.agg #[.slice Ao99 t687.length co99, .slice Ao100 t690.length co100]] Try.func55 ?_; (with_reducible refine (impl_View.calls kj16 _ _ t687 _ _ t690 t693 _ ?side1 ?side2 ?side3 ?side4 A55.out).mono ?_); (case side1 => repeat (first | exact (Kd.R_reads' HO689.out).2.2 | (with_reducible refine Kd.C_alloc ?_ _) | (with_reducible refine Kd.C_drewN ?_ _) | (with_reducible refine Kd.C_drew ?_))); (case side2 => exact (Kd.R_reads' HO689.out).2.1); (case side3 => repeat (first | exact (Kd.R_reads' HO692.out).2.2 | (with_reducible refine Kd.C_alloc ?_ _) | (with_reducible refine Kd.C_drewN ?_ _) | (with_reducible refine Kd.C_drew ?_))); (case side4 => exact (Kd.R_reads' HO692.out).2.1); rintro e w101 ⟨v694, rfl, ho0, hb⟩; refine ⟨_, rfl, ?_⟩; replace HO_669001 := zm (Kd.R_below (zr HO_669001) hb); replace HO692 := zm (Kd.R_below (zr HO692) hb); have HO695 := zm (Kd.R_lower (Kd.R_new' (Kd.R_new' (Kd.R_new' (Kd.R_new' ho0 (Kd.R_lt (zr HO_4))) (Kd.R_lt (zr HO_6))) (Kd.R_lt (zr HO_669000))) (Kd.R_lt (zr HO689))) (below_size zB)); replace HO_4 := zm (Kd.R_elder' (zr HO_4) (Kd.R_base ho0) hb); replace HO_6 := zm (Kd.R_elder' (zr HO_6) (Kd.R_base ho0) hb); replace HO_669000 := zm (Kd.R_elder' (zr HO_669000) (Kd.R_base ho0) hb); replace HO689 := zm (Kd.R_elder' (zr HO689) (Kd.R_base ho0) hb); replace BK651 := zm (blk_below (zb BK651) hb); replace BK668 := zm (blk_below (zb BK668) hb); replace HB := zm (below_step zB hb); clear hb ho0; obtain ⟨Ao102, co102, eo102⟩ := Kd.R_slice HO695.out; subst eo102) | ((with_reducible refine gate_callee (f := 56) rfl ?_); refine zg (some 59) #[.slice Ao102 t693.length co102, .slice Ao35 t659.length co35] Try.func56 ?_; (with_reducible refine (laws_eqItemS.calls kj16 _ _ t693 _ _ t659 false _ ?side1 ?side2 ?side3 ?side4 A56.out).mono ?_); (case side1 => repeat (first | exact (Kd.R_reads' HO695.out).2.2 | (with_reducible refine Kd.C_alloc ?_ _) | (with_reducible refine Kd.C_drewN ?_ _) | (with_reducible refine Kd.C_drew ?_))); (case side2 => exact (Kd.R_reads' HO695.out).2.1); (case side3 => repeat (first | exact (Kd.R_reads' HO_4.out).2.2 | (with_reducible refine Kd.C_alloc ?_ _) | (with_reducible refine Kd.C_drewN ?_ _) | (with_reducible refine Kd.C_drew ?_))); (case side4 => exact (Kd.R_reads' HO_4.out).2.1); rintro e w103 ⟨rfl, hb⟩; refine ⟨_, rfl, ?_⟩; replace HO_4 := zm (Kd.R_below (zr HO_4) hb); replace HO_6 := zm (Kd.R_below (zr HO_6) hb); replace HO_669000 := zm (Kd.R_below (zr HO_669000) hb); replace HO_669001 := zm (Kd.R_below (zr HO_669001) hb); replace HO689 := zm (Kd.R_below (zr HO689) hb); replace HO692 := zm (Kd.R_below (zr HO692) hb); replace HO695 := zm (Kd.R_below (zr HO695) hb); replace BK651 := zm (blk_below (zb BK651) hb); replace BK668 := zm (blk_below (zb BK668) hb); replace HB := zm (below_step zB hb); clear hb))
          go_ret
          exact ⟨zE, zB⟩
        ·rw [if_neg c53] at H
         have c53b0 : (t686 == t684) = false := beq_eq_false_iff_ne.mpr c53
         have c53b1 : (t686 != t684) = true := bne_iff_ne.mpr c53
         obtain rfl := Option.some.inj H
         go_wp2_with (first | ((with_reducible refine gate_callee (f := 57) rfl ?_); refine zg (some 45) #[.slice Ao34 t669.length co34, .int .i64 1] Try.func57 ?_; (with_reducible refine (laws_markItemS.calls kj16 (fun k_ => some k_ = (.slice Ao34 t669.length co34 : Value).ownBlock) (.slice Ao34 t669.length co34) t669 1 t684 t685 w _ zB ?side2 A48.out).mono ?_); (case side2 => exact Kd.R_tight rfl HO_6.out); rintro e w104 ⟨rfl, hy0, hb, hkp⟩; refine ⟨_, rfl, ?_⟩; replace HO_4 := zm (Kd.R_mono (ok' := fun k_ => some k_ ≠ (.slice Ao34 t669.length co34 : Value).ownBlock ∧ some k_ ≠ (.slice Ao29 t681.length co29 : Value).ownBlock) (Kd.R_keptB (HO_4.out) hkp (fun k_ hk_ hs_ => (hk_.1) hs_)) (fun k_ hk_ => ⟨hk_.1.1, hk_.1.2⟩)); replace HO_669000 := zm (Kd.R_mono (ok' := fun k_ => some k_ ≠ (.slice Ao35 t659.length co35 : Value).ownBlock ∧ some k_ ≠ (.slice Ao34 t669.length co34 : Value).ownBlock) (Kd.R_keptB (HO_669000.out) hkp (fun k_ hk_ hs_ => (hk_.2) hs_)) (fun k_ hk_ => ⟨hk_.1.1, hk_.1.2⟩)); replace HO_669001 := zm (Kd.R_mono (ok' := fun k_ => True) (Kd.R_keptB ((Kd.R_apart' HO_669001.out (Kd.R_typed HO_6.out) (by decide))) hkp (fun k_ hk_ hs_ => (hk_.2) hs_)) (fun k_ hk_ => trivial)); replace BK651 := zm (blk_kept (zb BK651) hkp (fun hs_ => (fun e_ => (Kd.R_ne HO_6.out BK651.out (by decide)) e_) hs_)); replace BK668 := zm (blk_kept (zb BK668) hkp (fun hs_ => (fun e_ => (Kd.R_ne HO_6.out BK668.out (by decide)) e_) hs_)); replace HO_6 := zm (Kd.R_reok rfl hy0 (fun k_ e_ => HO_6.out.1 k_ e_)); replace HB := zm (hb); clear hb hkp hy0) | ((with_reducible refine gate_callee (f := 58) rfl ?_); refine goesL_ (some 48) rfl rfl Try.func58 (by kernel_rfl) rfl #[.slice Ao34 t685.length co34, .int .i64 1] rfl (by (try simp only [List.map_toArray, List.map_cons, List.map_nil]); first | done | (rw [show t685.length = t669.length from (Kd.R_reads' HO_6.out).1.symm] <;> rfl) | rfl | (simp only [List.length_drop, List.length_take]; rfl)) ?_; (with_reducible refine (laws_heldItemS.calls kj16 _ _ t685 1 t686 _ ?side1 ?side2 A49.out).mono ?_); (case side1 => repeat (first | exact (Kd.R_reads' HO_6.out).2.2 | (with_reducible refine Kd.C_alloc ?_ _) | (with_reducible refine Kd.C_drewN ?_ _) | (with_reducible refine Kd.C_drew ?_))); (case side2 => rw [show t685.length = t669.length from (Kd.R_reads' HO_6.out).1.symm]; exact (Kd.R_reads' HO_6.out).2.1); rintro e w105 ⟨rfl, hb⟩; refine ⟨_, rfl, ?_⟩; replace HO_4 := zm (Kd.R_below (zr HO_4) hb); replace HO_6 := zm (Kd.R_below (zr HO_6) hb); replace HO_669000 := zm (Kd.R_below (zr HO_669000) hb); replace HO_669001 := zm (Kd.R_below (zr HO_669001) hb); replace BK651 := zm (blk_below (zb BK651) hb); replace BK668 := zm (blk_below (zb BK668) hb); replace HB := zm (below_step zB hb); clear hb))
         go_ret
         exact ⟨zE, zB⟩
   ·replace c15 := Bool.eq_false_iff.mpr c15
    subst c15
    have H1 : (some false) = some r := by rw [if_neg (show ¬ (false = true) by decide)] at H; exact H
    clear H
    have H := H1
    clear H1
    obtain rfl := Option.some.inj H
    go_enter Try.func13, Try.ntmps13
    try go_wp2_with (first | ((with_reducible refine gate_dst (N := 1) rfl ?_); refine zbox 1 #[.slice A0_0 l0_0.length c0_0, .slice A0_1 l0_1.length c0_1] 48 ?_; intro gb651 hg w106 hbox hb; have BK651 := zm (hbox); have GW651 := zge w hg zB; have GE651 := zge w hg zB; replace HB := zm (below_step zB hb); clear hb hbox hg; have hcz107_0 : w106.cell? ⟨gb651, 0, none⟩ = some (.slice A0_0 l0_0.length c0_0) := (blk_cell BK651.out 0).trans rfl; have hcz107_1 : w106.cell? ⟨gb651, 1, none⟩ = some (.slice A0_1 l0_1.length c0_1) := (blk_cell BK651.out 1).trans rfl; have hfz107_0 := blk_frozen BK651.out 0; have hfz107_1 := blk_frozen BK651.out 1) | ((with_reducible refine gate_callee (f := 35) rfl ?_); refine zg (some 13) #[.agg #[.slice A0_0 l0_0.length c0_0, .slice A0_1 l0_1.length c0_1], .int .i64 1048576] Try.func35 ?_; (with_reducible refine (laws_szState.calls k _ _ l0_0 _ _ l0_1 1048576 t652 _ (zk (Kd.C_below HR0_0.out HB.out)) HC0_0.out (zk (Kd.C_below HR0_1.out HB.out)) HC0_1.out A2.out).mono ?_); rintro e w108 ⟨rfl, hb⟩; refine ⟨_, rfl, ?_⟩; replace BK651 := zm (blk_below (zb BK651) hb); replace HB := zm (below_step zB hb); clear hb; have hcz109_0 : w108.cell? ⟨gb651, 0, none⟩ = some (.slice A0_0 l0_0.length c0_0) := (blk_cell BK651.out 0).trans rfl; have hcz109_1 : w108.cell? ⟨gb651, 1, none⟩ = some (.slice A0_1 l0_1.length c0_1) := (blk_cell BK651.out 1).trans rfl; have hfz109_0 := blk_frozen BK651.out 0; have hfz109_1 := blk_frozen BK651.out 1) | ((with_reducible refine gate_callee (f := 37) rfl ?_); refine zg (some 17) #[.agg #[.slice A0_0 l0_0.length c0_0, .slice A0_1 l0_1.length c0_1]] Try.func37 ?_; (with_reducible refine (laws_toState.calls k _ _ l0_0 _ _ l0_1 t653 t656 _ (zk (Kd.C_below HR0_0.out HB.out)) HC0_0.out (zk (Kd.C_below HR0_1.out HB.out)) HC0_1.out A7.out).mono ?_); rintro e w110 ⟨v654, v657, rfl, ho0, ho1, hb⟩; refine ⟨_, rfl, ?_⟩; have HO655 := zm (Kd.R_lower ho0 (below_size zB)); have HO658 := zm (Kd.R_lower ho1 (below_size zB)); replace BK651 := zm (blk_below (zb BK651) hb); replace HB := zm (below_step zB hb); clear hb ho0 ho1; obtain ⟨Ao111, co111, eo111⟩ := Kd.R_slice HO655.out; subst eo111; obtain ⟨Ao112, co112, eo112⟩ := Kd.R_slice HO658.out; subst eo112) | ((with_reducible refine gate_callee (f := 54) rfl ?_); refine zg (some 18) #[.agg #[.slice Ao111 t653.length co111, .slice Ao112 t656.length co112]] Try.func54 ?_; (with_reducible refine (spec_View.calls k _ _ t653 _ _ t656 t659 _ ?side1 ?side2 ?side3 ?side4 A8.out).mono ?_); (case side1 => repeat (first | exact (Kd.R_reads' HO655.out).2.2 | (with_reducible refine Kd.C_alloc ?_ _) | (with_reducible refine Kd.C_drewN ?_ _) | (with_reducible refine Kd.C_drew ?_))); (case side2 => exact (Kd.R_reads' HO655.out).2.1); (case side3 => repeat (first | exact (Kd.R_reads' HO658.out).2.2 | (with_reducible refine Kd.C_alloc ?_ _) | (with_reducible refine Kd.C_drewN ?_ _) | (with_reducible refine Kd.C_drew ?_))); (case side4 => exact (Kd.R_reads' HO658.out).2.1); rintro e w113 ⟨v660, rfl, ho0, hb⟩; refine ⟨_, rfl, ?_⟩; replace HO658 := zm (Kd.R_below (zr HO658) hb); have HO661 := zm (Kd.R_lower (Kd.R_new' ho0 (Kd.R_lt (zr HO655))) (below_size zB)); replace HO655 := zm (Kd.R_elder' (zr HO655) (Kd.R_base ho0) hb); replace BK651 := zm (blk_below (zb BK651) hb); replace HB := zm (below_step zB hb); clear hb ho0; have hcz114_0 : w113.cell? ⟨gb651, 0, none⟩ = some (.slice A0_0 l0_0.length c0_0) := (blk_cell BK651.out 0).trans rfl; have hcz114_1 : w113.cell? ⟨gb651, 1, none⟩ = some (.slice A0_1 l0_1.length c0_1) := (blk_cell BK651.out 1).trans rfl; have hfz114_0 := blk_frozen BK651.out 0; have hfz114_1 := blk_frozen BK651.out 1) | ((with_reducible refine gate_callee (f := 37) rfl ?_); refine zg (some 20) #[.agg #[.slice A0_0 l0_0.length c0_0, .slice A0_1 l0_1.length c0_1]] Try.func37 ?_; (with_reducible refine (laws_toState.calls k _ _ l0_0 _ _ l0_1 t662 t665 _ (zk (Kd.C_below HR0_0.out HB.out)) HC0_0.out (zk (Kd.C_below HR0_1.out HB.out)) HC0_1.out A9.out).mono ?_); rintro e w115 ⟨v663, v666, rfl, ho0, ho1, hb⟩; refine ⟨_, rfl, ?_⟩; have HO664 := zm (Kd.R_lower (Kd.R_new' (Kd.R_new' ho0 (Kd.R_lt (zr HO655))) (Kd.R_lt (zr HO661))) (below_size zB)); replace HO655 := zm (Kd.R_elder' (zr HO655) (Kd.R_base ho0) hb); replace HO661 := zm (Kd.R_elder' (zr HO661) (Kd.R_base ho0) hb); have HO667 := zm (Kd.R_lower (Kd.R_new' ho1 (Kd.R_lt (zr HO658))) (below_size zB)); replace HO658 := zm (Kd.R_elder' (zr HO658) (Kd.R_base ho1) hb); replace BK651 := zm (blk_below (zb BK651) hb); replace HB := zm (below_step zB hb); clear hb ho0 ho1) | ((with_reducible refine gate_dst (N := 5) rfl ?_); refine zbox 5 #[.slice none 0 0, .slice none 0 0] 55 ?_; intro gb668 hg w116 hbox hb; replace HO655 := zm (Kd.R_below (zr HO655) hb); replace HO658 := zm (Kd.R_below (zr HO658) hb); replace HO661 := zm (Kd.R_below (zr HO661) hb); replace HO664 := zm (Kd.R_below (zr HO664) hb); replace HO667 := zm (Kd.R_below (zr HO667) hb); have BK668 := zm (hbox); have GW668 := zge w hg zB; have GE668 := zge w hg zB; replace HB := zm (below_step zB hb); have NB651_668 := zlt hg (zb BK651); have NB668_651 := zgt hg (zb BK651); replace BK651 := zm (blk_below (zb BK651) hb); clear hb hbox hg; obtain ⟨Ao117, co117, eo117⟩ := Kd.R_slice HO664.out; subst eo117; have hnb118 := NB668_651.out; have hnc118 := NB651_668.out; have hcz119_0 : w116.cell? ⟨gb668, 0, none⟩ = some (.slice none 0 0) := (blk_cell BK668.out 0).trans rfl; have hcz119_1 : w116.cell? ⟨gb668, 1, none⟩ = some (.slice none 0 0) := (blk_cell BK668.out 1).trans rfl; have hfz119_0 := blk_frozen BK668.out 0; have hfz119_1 := blk_frozen BK668.out 1; obtain ⟨Ao120, co120, eo120⟩ := Kd.R_slice HO667.out; subst eo120) | ((with_reducible refine gate_callee (f := 55) rfl ?_); refine zg (some 22) #[.agg #[.slice Ao117 t662.length co117, .slice Ao120 t665.length co120]] Try.func55 ?_; (with_reducible refine (impl_View.calls k _ _ t662 _ _ t665 t669 _ ?side1 ?side2 ?side3 ?side4 A10.out).mono ?_); (case side1 => refine (Kd.R_reads' (e := 84) (base := w.heap.size) (ok := fun k_ => ((True ∧ some k_ ≠ (.slice Ao111 t653.length co111 : Value).ownBlock) ∧ some k_ ≠ (v660 : Value).ownBlock)) (n := t662.length) (c := co117) ?_).2.2; exact (zrs <| (Kd.R_mono (zfr (zfr (Kd.R_types HO664.out BK668.out (by decide)))) (fun _ h_ => h_.1)))); (case side2 => exact (Kd.R_reads' HO664.out).2.1); (case side3 => refine (Kd.R_reads' (e := 89) (base := w.heap.size) (ok := fun k_ => (True ∧ some k_ ≠ (.slice Ao112 t656.length co112 : Value).ownBlock)) (n := t665.length) (c := co120) ?_).2.2; exact (zrs <| (Kd.R_mono (zfr (zfr (Kd.R_types HO667.out BK668.out (by decide)))) (fun _ h_ => h_.1)))); (case side4 => exact (Kd.R_reads' HO667.out).2.1); rintro e w121 ⟨v670, rfl, ho0, hb⟩; refine ⟨_, rfl, ?_⟩; replace HO658 := zm (Kd.R_below (zrs <| (Kd.R_mono (zfr (zfr (Kd.R_types HO658.out BK668.out (by decide)))) (fun _ h_ => h_.1))) hb); replace HO667 := zm (Kd.R_below (zrs <| (Kd.R_mono (zfr (zfr (Kd.R_types HO667.out BK668.out (by decide)))) (fun _ h_ => h_.1))) hb); have HO671 := zm (Kd.R_lower (Kd.R_new' (Kd.R_new' (Kd.R_new' ho0 (Kd.R_lt (zrs <| (Kd.R_mono (zfr (zfr (Kd.R_types HO655.out BK668.out (by decide)))) (fun _ h_ => h_.1))))) (Kd.R_lt (zrs <| (Kd.R_mono (zfr (zfr (Kd.R_types HO661.out BK668.out (by decide)))) (fun _ h_ => h_.1))))) (Kd.R_lt (zrs <| (Kd.R_mono (zfr (zfr (Kd.R_types HO664.out BK668.out (by decide)))) (fun _ h_ => h_.1))))) (below_size zB)); replace HO655 := zm (Kd.R_elder' (zrs <| (Kd.R_mono (zfr (zfr (Kd.R_types HO655.out BK668.out (by decide)))) (fun _ h_ => h_.1))) (Kd.R_base ho0) hb); replace HO661 := zm (Kd.R_elder' (zrs <| (Kd.R_mono (zfr (zfr (Kd.R_types HO661.out BK668.out (by decide)))) (fun _ h_ => h_.1))) (Kd.R_base ho0) hb); replace HO664 := zm (Kd.R_elder' (zrs <| (Kd.R_mono (zfr (zfr (Kd.R_types HO664.out BK668.out (by decide)))) (fun _ h_ => h_.1))) (Kd.R_base ho0) hb); replace BK651 := zm (blk_below (g := gb651) (o := .cells #[.slice A0_0 l0_0.length c0_0, .slice A0_1 l0_1.length c0_1] 48 (0, 0)) (zfar (zfar (zb BK651) NB651_668) NB651_668) hb); replace BK668 := zm (blk_below (g := gb668) (o := .cells #[.slice Ao117 t662.length co117, .slice Ao120 t665.length co120] 55 (0, 0)) (zput (zput (zb BK668) 0) 1) hb); replace HB := zm (below_step zB hb); clear hb ho0; obtain ⟨Ao122, co122, eo122⟩ := Kd.R_slice HO671.out; subst eo122; obtain ⟨Ao123, co123, eo123⟩ := Kd.R_slice HO661.out; subst eo123) | ((with_reducible refine gate_callee (f := 56) rfl ?_); refine zg (some 25) #[.slice Ao122 t669.length co122, .slice Ao123 t659.length co123] Try.func56 ?_; (with_reducible refine (laws_eqItemS.calls k _ _ t669 _ _ t659 true _ ?side1 ?side2 ?side3 ?side4 A11.out).mono ?_); (case side1 => repeat (first | exact (Kd.R_reads' HO671.out).2.2 | (with_reducible refine Kd.C_alloc ?_ _) | (with_reducible refine Kd.C_drewN ?_ _) | (with_reducible refine Kd.C_drew ?_))); (case side2 => exact (Kd.R_reads' HO671.out).2.1); (case side3 => repeat (first | exact (Kd.R_reads' HO661.out).2.2 | (with_reducible refine Kd.C_alloc ?_ _) | (with_reducible refine Kd.C_drewN ?_ _) | (with_reducible refine Kd.C_drew ?_))); (case side4 => exact (Kd.R_reads' HO661.out).2.1); rintro e w124 ⟨rfl, hb⟩; refine ⟨_, rfl, ?_⟩; replace HO655 := zm (Kd.R_below (zr HO655) hb); replace HO658 := zm (Kd.R_below (zr HO658) hb); replace HO661 := zm (Kd.R_below (zr HO661) hb); replace HO664 := zm (Kd.R_below (zr HO664) hb); replace HO667 := zm (Kd.R_below (zr HO667) hb); replace HO671 := zm (Kd.R_below (zr HO671) hb); replace BK651 := zm (blk_below (zb BK651) hb); replace BK668 := zm (blk_below (zb BK668) hb); replace HB := zm (below_step zB hb); clear hb))
    replace HO655 := zm (Kd.R_drew HO655.out)
    replace HO658 := zm (Kd.R_drew HO658.out)
    replace HO661 := zm (Kd.R_drew HO661.out)
    replace HO664 := zm (Kd.R_drew HO664.out)
    replace HO667 := zm (Kd.R_drew HO667.out)
    replace HO671 := zm (Kd.R_drew HO671.out)
    replace BK651 := zm (blk_drew BK651.out)
    replace BK668 := zm (blk_drew BK668.out)
    replace HB := zm (below_drew1 HB.out)
    refine start_ (n := 5) (S := fun w' => w'.cell? ⟨gb668, 0, none⟩ = some (.slice Ao117 t662.length co117) ∧ w'.cell? ⟨gb668, 1, none⟩ = some (.slice Ao120 t665.length co120) ∧ w'.cell? ⟨gb651, 0, none⟩ = some (.slice A0_0 l0_0.length c0_0) ∧ w'.cell? ⟨gb651, 1, none⟩ = some (.slice A0_1 l0_1.length c0_1)) (ds := []) (zl 5 0) (by kernel_rfl) rfl rfl ⟨(blk_cell BK668.out 0).trans rfl, (blk_cell BK668.out 1).trans rfl, (blk_cell BK651.out 0).trans rfl, (blk_cell BK651.out 1).trans rfl⟩ (fun hHeld => ?_)
    generalize w124.drew = w125 at HO655 HO658 HO661 HO664 HO667 HO671 BK651 BK668 HB hHeld ⊢
    refine zt 0 (some 27) (zl 5 1) ?_
    refine zt 1 (some 28) (zl 5 3) ?_
    refine zo 2 (some 29) (zl 5 7) (fun K hK => ?_)
    refine zgo #[.agg #[.slice A0_0 l0_0.length c0_0, .slice A0_1 l0_1.length c0_1]] Try.func37 ?_
    with_reducible refine (laws_toState.calls k _ _ l0_0 _ _ l0_1 t673 t676 _ (zk (Kd.C_below HR0_0.out HB.out)) HC0_0.out (zk (Kd.C_below HR0_1.out HB.out)) HC0_1.out A13.out).mono ?_
    rintro e w126 ⟨v674, v677, rfl, ho0, ho1, hb⟩
    refine ⟨_, rfl, ?_⟩
    have HO675 := zm (Kd.R_lower (Kd.R_new' (Kd.R_new' (Kd.R_new' (Kd.R_new' ho0 (Kd.R_lt (zr HO655))) (Kd.R_lt (zr HO661))) (Kd.R_lt (zr HO664))) (Kd.R_lt (zr HO671))) (below_size zB))
    replace HO655 := zm (Kd.R_elder' (zr HO655) (Kd.R_base ho0) hb)
    replace HO661 := zm (Kd.R_elder' (zr HO661) (Kd.R_base ho0) hb)
    replace HO664 := zm (Kd.R_elder' (zr HO664) (Kd.R_base ho0) hb)
    replace HO671 := zm (Kd.R_elder' (zr HO671) (Kd.R_base ho0) hb)
    have HO678 := zm (Kd.R_lower (Kd.R_new' (Kd.R_new' ho1 (Kd.R_lt (zr HO658))) (Kd.R_lt (zr HO667))) (below_size zB))
    replace HO658 := zm (Kd.R_elder' (zr HO658) (Kd.R_base ho1) hb)
    replace HO667 := zm (Kd.R_elder' (zr HO667) (Kd.R_base ho1) hb)
    replace BK651 := zm (blk_below (zb BK651) hb)
    replace BK668 := zm (blk_below (zb BK668) hb)
    replace HB := zm (below_step zB hb)
    (try clear hb)
    (try clear hb2)
    (try clear hk)
    (try clear hi)
    (try clear ho0)
    (try clear ho1)
    obtain ⟨Ao127, co127, eo127⟩ := Kd.R_slice HO675.out
    (first | subst eo127 | (injection eo127 with f1_ f2_ f3_; have f4_ := f1_.symm; have f5_ := f3_.symm; clear f1_ f2_ f3_; subst f4_; subst f5_))
    obtain ⟨Ao128, co128, eo128⟩ := Kd.R_slice HO678.out
    (first | subst eo128 | (injection eo128 with f1_ f2_ f3_; have f4_ := f1_.symm; have f5_ := f3_.symm; clear f1_ f2_ f3_; subst f4_; subst f5_))
    refine hK.out _ _ ⟨(blk_cell BK668.out 0).trans rfl, (blk_cell BK668.out 1).trans rfl, (blk_cell BK651.out 0).trans rfl, (blk_cell BK651.out 1).trans rfl⟩ (fun hHeld => ?_)
    clear hK K
    refine zn ?_
    refine zo 3 (some 30) (zl 5 15) (fun K hK => ?_)
    refine zgo #[.agg #[.slice Ao117 t662.length co117, .slice Ao120 t665.length co120], .agg #[.slice Ao127 t673.length co127, .slice Ao128 t676.length co128]] Try.func39 ?_
    with_reducible refine (laws_eqState.calls k _ _ t662 _ _ t665 _ _ t673 _ _ t676 false _ ?side1 ?side2 ?side3 ?side4 ?side5 ?side6 ?side7 ?side8 A14.out).mono ?_
    (case side1 => repeat (first | exact (Kd.R_reads' HO664.out).2.2 | (with_reducible refine Kd.C_alloc ?_ _) | (with_reducible refine Kd.C_drewN ?_ _) | (with_reducible refine Kd.C_drew ?_)))
    (case side2 => exact (Kd.R_reads' HO664.out).2.1)
    (case side3 => repeat (first | exact (Kd.R_reads' HO667.out).2.2 | (with_reducible refine Kd.C_alloc ?_ _) | (with_reducible refine Kd.C_drewN ?_ _) | (with_reducible refine Kd.C_drew ?_)))
    (case side4 => exact (Kd.R_reads' HO667.out).2.1)
    (case side5 => repeat (first | exact (Kd.R_reads' HO675.out).2.2 | (with_reducible refine Kd.C_alloc ?_ _) | (with_reducible refine Kd.C_drewN ?_ _) | (with_reducible refine Kd.C_drew ?_)))
    (case side6 => exact (Kd.R_reads' HO675.out).2.1)
    (case side7 => repeat (first | exact (Kd.R_reads' HO678.out).2.2 | (with_reducible refine Kd.C_alloc ?_ _) | (with_reducible refine Kd.C_drewN ?_ _) | (with_reducible refine Kd.C_drew ?_)))
    (case side8 => exact (Kd.R_reads' HO678.out).2.1)
    rintro e w129 ⟨rfl, hb⟩
    refine ⟨_, rfl, ?_⟩
    replace HO655 := zm (Kd.R_below (zr HO655) hb)
    replace HO658 := zm (Kd.R_below (zr HO658) hb)
    replace HO661 := zm (Kd.R_below (zr HO661) hb)
    replace HO664 := zm (Kd.R_below (zr HO664) hb)
    replace HO667 := zm (Kd.R_below (zr HO667) hb)
    replace HO671 := zm (Kd.R_below (zr HO671) hb)
    replace HO675 := zm (Kd.R_below (zr HO675) hb)
    replace HO678 := zm (Kd.R_below (zr HO678) hb)
    replace BK651 := zm (blk_below (zb BK651) hb)
    replace BK668 := zm (blk_below (zb BK668) hb)
    replace HB := zm (below_step zB hb)
    (try clear hb)
    (try clear hb2)
    (try clear hk)
    (try clear hi)
    refine hK.out _ _ ⟨(blk_cell BK668.out 0).trans rfl, (blk_cell BK668.out 1).trans rfl, (blk_cell BK651.out 0).trans rfl, (blk_cell BK651.out 1).trans rfl⟩ (fun hHeld => ?_)
    clear hK K
    refine zn ?_
    refine zp 4 (some 31) (zl 5 31) ?_
    refine done_ (by kernel_rfl) ?_
    try go_wp2
    go_ret
    exact ⟨zE, zB⟩
  ·replace c12 := Bool.eq_false_iff.mpr c12
   subst c12
   have H1 : (some false) = some r := by rw [if_neg (show ¬ (false = true) by decide)] at H; exact H
   clear H
   have H := H1
   clear H1
   obtain rfl := Option.some.inj H
   go_enter Try.func13, Try.ntmps13
   go_wp2_with (first | ((with_reducible refine gate_dst (N := 1) rfl ?_); refine zbox 1 #[.slice A0_0 l0_0.length c0_0, .slice A0_1 l0_1.length c0_1] 48 ?_; intro gb651 hg w130 hbox hb; have BK651 := zm (hbox); have GW651 := zge w hg zB; have GE651 := zge w hg zB; replace HB := zm (below_step zB hb); clear hb hbox hg; have hcz131_0 : w130.cell? ⟨gb651, 0, none⟩ = some (.slice A0_0 l0_0.length c0_0) := (blk_cell BK651.out 0).trans rfl; have hcz131_1 : w130.cell? ⟨gb651, 1, none⟩ = some (.slice A0_1 l0_1.length c0_1) := (blk_cell BK651.out 1).trans rfl; have hfz131_0 := blk_frozen BK651.out 0; have hfz131_1 := blk_frozen BK651.out 1) | ((with_reducible refine gate_callee (f := 35) rfl ?_); refine zg (some 13) #[.agg #[.slice A0_0 l0_0.length c0_0, .slice A0_1 l0_1.length c0_1], .int .i64 1048576] Try.func35 ?_; (with_reducible refine (laws_szState.calls k _ _ l0_0 _ _ l0_1 1048576 t652 _ (zk (Kd.C_below HR0_0.out HB.out)) HC0_0.out (zk (Kd.C_below HR0_1.out HB.out)) HC0_1.out A2.out).mono ?_); rintro e w132 ⟨rfl, hb⟩; refine ⟨_, rfl, ?_⟩; replace BK651 := zm (blk_below (zb BK651) hb); replace HB := zm (below_step zB hb); clear hb; have hcz133_0 : w132.cell? ⟨gb651, 0, none⟩ = some (.slice A0_0 l0_0.length c0_0) := (blk_cell BK651.out 0).trans rfl; have hcz133_1 : w132.cell? ⟨gb651, 1, none⟩ = some (.slice A0_1 l0_1.length c0_1) := (blk_cell BK651.out 1).trans rfl; have hfz133_0 := blk_frozen BK651.out 0; have hfz133_1 := blk_frozen BK651.out 1) | ((with_reducible refine gate_callee (f := 37) rfl ?_); refine zg (some 17) #[.agg #[.slice A0_0 l0_0.length c0_0, .slice A0_1 l0_1.length c0_1]] Try.func37 ?_; (with_reducible refine (laws_toState.calls k _ _ l0_0 _ _ l0_1 t653 t656 _ (zk (Kd.C_below HR0_0.out HB.out)) HC0_0.out (zk (Kd.C_below HR0_1.out HB.out)) HC0_1.out A7.out).mono ?_); rintro e w134 ⟨v654, v657, rfl, ho0, ho1, hb⟩; refine ⟨_, rfl, ?_⟩; have HO655 := zm (Kd.R_lower ho0 (below_size zB)); have HO658 := zm (Kd.R_lower ho1 (below_size zB)); replace BK651 := zm (blk_below (zb BK651) hb); replace HB := zm (below_step zB hb); clear hb ho0 ho1; obtain ⟨Ao135, co135, eo135⟩ := Kd.R_slice HO655.out; subst eo135; obtain ⟨Ao136, co136, eo136⟩ := Kd.R_slice HO658.out; subst eo136) | ((with_reducible refine gate_callee (f := 54) rfl ?_); refine zg (some 18) #[.agg #[.slice Ao135 t653.length co135, .slice Ao136 t656.length co136]] Try.func54 ?_; (with_reducible refine (spec_View.calls k _ _ t653 _ _ t656 t659 _ ?side1 ?side2 ?side3 ?side4 A8.out).mono ?_); (case side1 => repeat (first | exact (Kd.R_reads' HO655.out).2.2 | (with_reducible refine Kd.C_alloc ?_ _) | (with_reducible refine Kd.C_drewN ?_ _) | (with_reducible refine Kd.C_drew ?_))); (case side2 => exact (Kd.R_reads' HO655.out).2.1); (case side3 => repeat (first | exact (Kd.R_reads' HO658.out).2.2 | (with_reducible refine Kd.C_alloc ?_ _) | (with_reducible refine Kd.C_drewN ?_ _) | (with_reducible refine Kd.C_drew ?_))); (case side4 => exact (Kd.R_reads' HO658.out).2.1); rintro e w137 ⟨v660, rfl, ho0, hb⟩; refine ⟨_, rfl, ?_⟩; replace HO658 := zm (Kd.R_below (zr HO658) hb); have HO661 := zm (Kd.R_lower (Kd.R_new' ho0 (Kd.R_lt (zr HO655))) (below_size zB)); replace HO655 := zm (Kd.R_elder' (zr HO655) (Kd.R_base ho0) hb); replace BK651 := zm (blk_below (zb BK651) hb); replace HB := zm (below_step zB hb); clear hb ho0; have hcz138_0 : w137.cell? ⟨gb651, 0, none⟩ = some (.slice A0_0 l0_0.length c0_0) := (blk_cell BK651.out 0).trans rfl; have hcz138_1 : w137.cell? ⟨gb651, 1, none⟩ = some (.slice A0_1 l0_1.length c0_1) := (blk_cell BK651.out 1).trans rfl; have hfz138_0 := blk_frozen BK651.out 0; have hfz138_1 := blk_frozen BK651.out 1) | ((with_reducible refine gate_callee (f := 37) rfl ?_); refine zg (some 20) #[.agg #[.slice A0_0 l0_0.length c0_0, .slice A0_1 l0_1.length c0_1]] Try.func37 ?_; (with_reducible refine (laws_toState.calls k _ _ l0_0 _ _ l0_1 t662 t665 _ (zk (Kd.C_below HR0_0.out HB.out)) HC0_0.out (zk (Kd.C_below HR0_1.out HB.out)) HC0_1.out A9.out).mono ?_); rintro e w139 ⟨v663, v666, rfl, ho0, ho1, hb⟩; refine ⟨_, rfl, ?_⟩; have HO664 := zm (Kd.R_lower (Kd.R_new' (Kd.R_new' ho0 (Kd.R_lt (zr HO655))) (Kd.R_lt (zr HO661))) (below_size zB)); replace HO655 := zm (Kd.R_elder' (zr HO655) (Kd.R_base ho0) hb); replace HO661 := zm (Kd.R_elder' (zr HO661) (Kd.R_base ho0) hb); have HO667 := zm (Kd.R_lower (Kd.R_new' ho1 (Kd.R_lt (zr HO658))) (below_size zB)); replace HO658 := zm (Kd.R_elder' (zr HO658) (Kd.R_base ho1) hb); replace BK651 := zm (blk_below (zb BK651) hb); replace HB := zm (below_step zB hb); clear hb ho0 ho1) | ((with_reducible refine gate_dst (N := 5) rfl ?_); refine zbox 5 #[.slice none 0 0, .slice none 0 0] 55 ?_; intro gb668 hg w140 hbox hb; replace HO655 := zm (Kd.R_below (zr HO655) hb); replace HO658 := zm (Kd.R_below (zr HO658) hb); replace HO661 := zm (Kd.R_below (zr HO661) hb); replace HO664 := zm (Kd.R_below (zr HO664) hb); replace HO667 := zm (Kd.R_below (zr HO667) hb); have BK668 := zm (hbox); have GW668 := zge w hg zB; have GE668 := zge w hg zB; replace HB := zm (below_step zB hb); have NB651_668 := zlt hg (zb BK651); have NB668_651 := zgt hg (zb BK651); replace BK651 := zm (blk_below (zb BK651) hb); clear hb hbox hg; obtain ⟨Ao141, co141, eo141⟩ := Kd.R_slice HO664.out; subst eo141; have hnb142 := NB668_651.out; have hnc142 := NB651_668.out; have hcz143_0 : w140.cell? ⟨gb668, 0, none⟩ = some (.slice none 0 0) := (blk_cell BK668.out 0).trans rfl; have hcz143_1 : w140.cell? ⟨gb668, 1, none⟩ = some (.slice none 0 0) := (blk_cell BK668.out 1).trans rfl; have hfz143_0 := blk_frozen BK668.out 0; have hfz143_1 := blk_frozen BK668.out 1; obtain ⟨Ao144, co144, eo144⟩ := Kd.R_slice HO667.out; subst eo144) | ((with_reducible refine gate_callee (f := 55) rfl ?_); refine zg (some 22) #[.agg #[.slice Ao141 t662.length co141, .slice Ao144 t665.length co144]] Try.func55 ?_; (with_reducible refine (impl_View.calls k _ _ t662 _ _ t665 t669 _ ?side1 ?side2 ?side3 ?side4 A10.out).mono ?_); (case side1 => refine (Kd.R_reads' (e := 84) (base := w.heap.size) (ok := fun k_ => ((True ∧ some k_ ≠ (.slice Ao135 t653.length co135 : Value).ownBlock) ∧ some k_ ≠ (v660 : Value).ownBlock)) (n := t662.length) (c := co141) ?_).2.2; exact (zrs <| (Kd.R_mono (zfr (zfr (Kd.R_types HO664.out BK668.out (by decide)))) (fun _ h_ => h_.1)))); (case side2 => exact (Kd.R_reads' HO664.out).2.1); (case side3 => refine (Kd.R_reads' (e := 89) (base := w.heap.size) (ok := fun k_ => (True ∧ some k_ ≠ (.slice Ao136 t656.length co136 : Value).ownBlock)) (n := t665.length) (c := co144) ?_).2.2; exact (zrs <| (Kd.R_mono (zfr (zfr (Kd.R_types HO667.out BK668.out (by decide)))) (fun _ h_ => h_.1)))); (case side4 => exact (Kd.R_reads' HO667.out).2.1); rintro e w145 ⟨v670, rfl, ho0, hb⟩; refine ⟨_, rfl, ?_⟩; replace HO658 := zm (Kd.R_below (zrs <| (Kd.R_mono (zfr (zfr (Kd.R_types HO658.out BK668.out (by decide)))) (fun _ h_ => h_.1))) hb); replace HO667 := zm (Kd.R_below (zrs <| (Kd.R_mono (zfr (zfr (Kd.R_types HO667.out BK668.out (by decide)))) (fun _ h_ => h_.1))) hb); have HO671 := zm (Kd.R_lower (Kd.R_new' (Kd.R_new' (Kd.R_new' ho0 (Kd.R_lt (zrs <| (Kd.R_mono (zfr (zfr (Kd.R_types HO655.out BK668.out (by decide)))) (fun _ h_ => h_.1))))) (Kd.R_lt (zrs <| (Kd.R_mono (zfr (zfr (Kd.R_types HO661.out BK668.out (by decide)))) (fun _ h_ => h_.1))))) (Kd.R_lt (zrs <| (Kd.R_mono (zfr (zfr (Kd.R_types HO664.out BK668.out (by decide)))) (fun _ h_ => h_.1))))) (below_size zB)); replace HO655 := zm (Kd.R_elder' (zrs <| (Kd.R_mono (zfr (zfr (Kd.R_types HO655.out BK668.out (by decide)))) (fun _ h_ => h_.1))) (Kd.R_base ho0) hb); replace HO661 := zm (Kd.R_elder' (zrs <| (Kd.R_mono (zfr (zfr (Kd.R_types HO661.out BK668.out (by decide)))) (fun _ h_ => h_.1))) (Kd.R_base ho0) hb); replace HO664 := zm (Kd.R_elder' (zrs <| (Kd.R_mono (zfr (zfr (Kd.R_types HO664.out BK668.out (by decide)))) (fun _ h_ => h_.1))) (Kd.R_base ho0) hb); replace BK651 := zm (blk_below (g := gb651) (o := .cells #[.slice A0_0 l0_0.length c0_0, .slice A0_1 l0_1.length c0_1] 48 (0, 0)) (zfar (zfar (zb BK651) NB651_668) NB651_668) hb); replace BK668 := zm (blk_below (g := gb668) (o := .cells #[.slice Ao141 t662.length co141, .slice Ao144 t665.length co144] 55 (0, 0)) (zput (zput (zb BK668) 0) 1) hb); replace HB := zm (below_step zB hb); clear hb ho0; obtain ⟨Ao146, co146, eo146⟩ := Kd.R_slice HO671.out; subst eo146; obtain ⟨Ao147, co147, eo147⟩ := Kd.R_slice HO661.out; subst eo147) | ((with_reducible refine gate_callee (f := 56) rfl ?_); refine zg (some 25) #[.slice Ao146 t669.length co146, .slice Ao147 t659.length co147] Try.func56 ?_; (with_reducible refine (laws_eqItemS.calls k _ _ t669 _ _ t659 false _ ?side1 ?side2 ?side3 ?side4 A11.out).mono ?_); (case side1 => repeat (first | exact (Kd.R_reads' HO671.out).2.2 | (with_reducible refine Kd.C_alloc ?_ _) | (with_reducible refine Kd.C_drewN ?_ _) | (with_reducible refine Kd.C_drew ?_))); (case side2 => exact (Kd.R_reads' HO671.out).2.1); (case side3 => repeat (first | exact (Kd.R_reads' HO661.out).2.2 | (with_reducible refine Kd.C_alloc ?_ _) | (with_reducible refine Kd.C_drewN ?_ _) | (with_reducible refine Kd.C_drew ?_))); (case side4 => exact (Kd.R_reads' HO661.out).2.1); rintro e w148 ⟨rfl, hb⟩; refine ⟨_, rfl, ?_⟩; replace HO655 := zm (Kd.R_below (zr HO655) hb); replace HO658 := zm (Kd.R_below (zr HO658) hb); replace HO661 := zm (Kd.R_below (zr HO661) hb); replace HO664 := zm (Kd.R_below (zr HO664) hb); replace HO667 := zm (Kd.R_below (zr HO667) hb); replace HO671 := zm (Kd.R_below (zr HO671) hb); replace BK651 := zm (blk_below (zb BK651) hb); replace BK668 := zm (blk_below (zb BK668) hb); replace HB := zm (below_step zB hb); clear hb))
   go_ret
   exact ⟨zE, zB⟩

def laws_FnExactView.Pure : Prop := ∀ (l0_0 : List (S105)) (l0_1 : List (S108)), l0_0.length ≤ maxLen → l0_0.length * 56 ≤ 140737488351232 → (∀ x ∈ l0_0, ((Lit.int .i64 x.f0).wf = true ∧ ((Lit.int .i64 x.f1.f0).wf = true ∧ ((Lit.int .i64 x.f1.f1).wf = true ∧ ((Lit.int .i64 x.f1.f2).wf = true ∧ ((Lit.int .i64 x.f1.f3).wf = true ∧ x.f1.f4.size ≤ 140737488351232)))))) → l0_1.length ≤ maxLen → l0_1.length * 16 ≤ 140737488351232 → (∀ x ∈ l0_1, ((Lit.int .i64 x.f0).wf = true ∧ (Lit.int .i64 x.f1).wf = true)) → ∃ k, laws_FnExactView.f k l0_0 l0_1 = some true

end Go.Proofs.Ythljdiniccpobaa.P
