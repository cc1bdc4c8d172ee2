-- by a program of this session, for this seat
import Derived.Test.YtgapdegniepjiaaZ
import Derived.Test.YtgapdegniepjiaaP0
import Derived.Test.YtgapdegniepjiaaPaa
import Derived.Test.YtgapdegniepjiaaPac
import Derived.Test.YtgapdegniepjiaaPag
import Derived.Test.YtgapdegniepjiaaPah
import Derived.Test.YtgapdegniepjiaaPam
import Derived.Test.YtgapdegniepjiaaPan
namespace Go.Proofs.Ytgapdegniepjiaa.P
open Go.RowKit Go.Proofs.YtgapdegniepjiaaW.PrintWords Go.Proofs.YtgapdegniepjiaaW.PrintLast Go.Proofs.YtgapdegniepjiaaW.PrintMore Go.Proofs.Ytgapdegniepjiaa.Z
attribute [local go_sem] max2_int min2_int max_two min_two max_three min_three max_four min_four   -- for this text's walks alone
set_option linter.unusedVariables false
set_option linter.unusedSimpArgs false

/-! ### laws_FnExactSayBeat: function 6 -/
mutual
def laws_FnExactSayBeat.j0 : Nat → Int → Int → Int → Bool → List (S94) → List (S98) → List (S68) → List (S72) → List (S68) → List (S72) → List (S68) → List (S72) → Option (Bool)
 | 0, _, _, _, _, _, _, _, _, _, _, _, _ => none
 | k + 1, x1, x7, x10, x44, x632000, x632001, x647000, x647001, x654000, x654001, x662000, x662001 => if x44 = true then (some false) else ((laws_toState.f k x632000 x632001).bind fun bt663 => ((laws_eqState.f k x654000 x654001 bt663.1 bt663.2).bind fun t669 => (if t669 = true then ((laws_markState.f k x654000 x654001 1).bind fun bt670 => (if bt670.1 < 0 then (laws_FnExactSayBeat.j1 k x1 x7 true x632000 x632001 x647000 x647001 x662000 x662001) else ((laws_eqState.f k x662000 x662001 x647000 x647001).bind fun t673 => (if t673 = true then (laws_FnExactSayBeat.j1 k x1 x7 (x10 != x7) x632000 x632001 x647000 x647001 x662000 x662001) else (laws_FnExactSayBeat.j1 k x1 x7 true x632000 x632001 x647000 x647001 x662000 x662001))))) else (some false))))
def laws_FnExactSayBeat.j1 : Nat → Int → Int → Bool → List (S94) → List (S98) → List (S68) → List (S72) → List (S68) → List (S72) → Option (Bool)
 | 0, _, _, _, _, _, _, _, _, _ => none
 | k + 1, x1, x7, x65, x632000, x632001, x647000, x647001, x662000, x662001 => if x65 = true then (some false) else ((laws_markState.f k x662000 x662001 1).bind fun bt674 => ((laws_heldState.f k bt674.2.1 bt674.2.2 1).bind fun t677 => (if t677 < 0 then (some false) else (if t677 = bt674.1 then ((laws_toState.f k x632000 x632001).bind fun bt678 => ((impl_SayBeat.f k bt678.1 bt678.2 x1).bind fun bt684 => ((laws_eqState.f k bt684.1 bt684.2.1 x647000 x647001).bind fun t692 => (if t692 = true then (laws_FnExactSayBeat.j2 k bt674.1 (bt684.2.2 != x7) bt674.2.1 bt674.2.2) else (laws_FnExactSayBeat.j2 k bt674.1 true bt674.2.1 bt674.2.2))))) else (some false)))))
def laws_FnExactSayBeat.j2 : Nat → Int → Bool → List (S68) → List (S72) → Option (Bool)
 | 0, _, _, _, _ => none
 | k + 1, x12, x92, x662000, x662001 => if x92 = true then (some false) else ((laws_heldState.f k x662000 x662001 1).bind fun t693 => (if t693 < 0 then (some false) else (if t693 = x12 then (some true) else (some false))))
end
def laws_FnExactSayBeat.f (k : Nat) (l0_0 : List (S94)) (l0_1 : List (S98)) (a1 : Int) : Option (Bool) := (laws_szState.f k l0_0 l0_1 1048576).bind fun t632 => (if t632 < 0 then (some true) else ((laws_toState.f k l0_0 l0_1).bind fun bt633 => ((spec_SayBeat.f k bt633.1 bt633.2 a1).bind fun bt639 => ((laws_toState.f k l0_0 l0_1).bind fun bt647 => ((impl_SayBeat.f k bt647.1 bt647.2 a1).bind fun bt654 => ((laws_eqState.f k bt654.1 bt654.2.1 bt639.1 bt639.2.1).bind fun t662 => (if t662 = true then (laws_FnExactSayBeat.j0 k a1 bt639.2.2 bt654.2.2 (bt654.2.2 != bt639.2.2) l0_0 l0_1 bt639.1 bt639.2.1 bt647.1 bt647.2 bt654.1 bt654.2.1) else (laws_FnExactSayBeat.j0 k a1 bt639.2.2 bt654.2.2 true l0_0 l0_1 bt639.1 bt639.2.1 bt647.1 bt647.2 bt654.1 bt654.2.1))))))))
theorem laws_FnExactSayBeat.mono_l : ∀ k, (∀ y0 y1 y2 y3 y4 y5 y6 y7 y8 y9 y10 y11, LeO (laws_FnExactSayBeat.j0 k y0 y1 y2 y3 y4 y5 y6 y7 y8 y9 y10 y11) (laws_FnExactSayBeat.j0 (k + 1) y0 y1 y2 y3 y4 y5 y6 y7 y8 y9 y10 y11)) ∧ (∀ y0 y1 y2 y3 y4 y5 y6 y7 y8, LeO (laws_FnExactSayBeat.j1 k y0 y1 y2 y3 y4 y5 y6 y7 y8) (laws_FnExactSayBeat.j1 (k + 1) y0 y1 y2 y3 y4 y5 y6 y7 y8)) ∧ (∀ y0 y1 y2 y3, LeO (laws_FnExactSayBeat.j2 k y0 y1 y2 y3) (laws_FnExactSayBeat.j2 (k + 1) y0 y1 y2 y3))
 | 0 => ⟨fun _ _ _ _ _ _ _ _ _ _ _ _ r h => by simp [laws_FnExactSayBeat.j0] at h, fun _ _ _ _ _ _ _ _ _ r h => by simp [laws_FnExactSayBeat.j1] at h, fun _ _ _ _ r h => by simp [laws_FnExactSayBeat.j2] at h⟩
 | k + 1 => by
  obtain ⟨ih0, ih1, ih2⟩ := laws_FnExactSayBeat.mono_l k
  refine ⟨?_, ?_, ?_⟩
  ·intro y0 y1 y2 y3 y4 y5 y6 y7 y8 y9 y10 y11
   unfold laws_FnExactSayBeat.j0
   repeat' first
   | (with_reducible exact ih0 _ _ _ _ _ _ _ _ _ _ _ _)
   | (with_reducible exact ih1 _ _ _ _ _ _ _ _ _)
   | (with_reducible exact ih2 _ _ _ _)
   | (with_reducible exact impl_SayBeat.mono _ _ _ _)
   | (with_reducible exact laws_eqState.mono _ _ _ _ _)
   | (with_reducible exact laws_heldState.mono _ _ _ _)
   | (with_reducible exact laws_markState.mono _ _ _ _)
   | (with_reducible exact laws_szState.mono _ _ _ _)
   | (with_reducible exact laws_toState.mono _ _ _)
   | (with_reducible exact spec_SayBeat.mono _ _ _ _)
   | (with_reducible exact LeO.refl _)
   | (with_reducible exact LeO.none _)
   | (with_reducible refine LeO.ite ?_ ?_)
   | (with_reducible refine LeO.bind ?_ (fun _ => ?_))
   | exact ih0 _ _ _ _ _ _ _ _ _ _ _ _
   | exact ih1 _ _ _ _ _ _ _ _ _
   | exact ih2 _ _ _ _
   | exact impl_SayBeat.mono _ _ _ _
   | exact laws_eqState.mono _ _ _ _ _
   | exact laws_heldState.mono _ _ _ _
   | exact laws_markState.mono _ _ _ _
   | exact laws_szState.mono _ _ _ _
   | exact laws_toState.mono _ _ _
   | exact spec_SayBeat.mono _ _ _ _
   | exact LeO.none _
   | refine LeO.ite ?_ ?_
   | refine LeO.bind ?_ (fun _ => ?_)
  ·intro y0 y1 y2 y3 y4 y5 y6 y7 y8
   unfold laws_FnExactSayBeat.j1
   repeat' first
   | (with_reducible exact ih0 _ _ _ _ _ _ _ _ _ _ _ _)
   | (with_reducible exact ih1 _ _ _ _ _ _ _ _ _)
   | (with_reducible exact ih2 _ _ _ _)
   | (with_reducible exact impl_SayBeat.mono _ _ _ _)
   | (with_reducible exact laws_eqState.mono _ _ _ _ _)
   | (with_reducible exact laws_heldState.mono _ _ _ _)
   | (with_reducible exact laws_markState.mono _ _ _ _)
   | (with_reducible exact laws_szState.mono _ _ _ _)
   | (with_reducible exact laws_toState.mono _ _ _)
   | (with_reducible exact spec_SayBeat.mono _ _ _ _)
   | (with_reducible exact LeO.refl _)
   | (with_reducible exact LeO.none _)
   | (with_reducible refine LeO.ite ?_ ?_)
   | (with_reducible refine LeO.bind ?_ (fun _ => ?_))
   | exact ih0 _ _ _ _ _ _ _ _ _ _ _ _
   | exact ih1 _ _ _ _ _ _ _ _ _
   | exact ih2 _ _ _ _
   | exact impl_SayBeat.mono _ _ _ _
   | exact laws_eqState.mono _ _ _ _ _
   | exact laws_heldState.mono _ _ _ _
   | exact laws_markState.mono _ _ _ _
   | exact laws_szState.mono _ _ _ _
   | exact laws_toState.mono _ _ _
   | exact spec_SayBeat.mono _ _ _ _
   | exact LeO.none _
   | refine LeO.ite ?_ ?_
   | refine LeO.bind ?_ (fun _ => ?_)
  ·intro y0 y1 y2 y3
   unfold laws_FnExactSayBeat.j2
   repeat' first
   | (with_reducible exact ih0 _ _ _ _ _ _ _ _ _ _ _ _)
   | (with_reducible exact ih1 _ _ _ _ _ _ _ _ _)
   | (with_reducible exact ih2 _ _ _ _)
   | (with_reducible exact impl_SayBeat.mono _ _ _ _)
   | (with_reducible exact laws_eqState.mono _ _ _ _ _)
   | (with_reducible exact laws_heldState.mono _ _ _ _)
   | (with_reducible exact laws_markState.mono _ _ _ _)
   | (with_reducible exact laws_szState.mono _ _ _ _)
   | (with_reducible exact laws_toState.mono _ _ _)
   | (with_reducible exact spec_SayBeat.mono _ _ _ _)
   | (with_reducible exact LeO.refl _)
   | (with_reducible exact LeO.none _)
   | (with_reducible refine LeO.ite ?_ ?_)
   | (with_reducible refine LeO.bind ?_ (fun _ => ?_))
   | exact ih0 _ _ _ _ _ _ _ _ _ _ _ _
   | exact ih1 _ _ _ _ _ _ _ _ _
   | exact ih2 _ _ _ _
   | exact impl_SayBeat.mono _ _ _ _
   | exact laws_eqState.mono _ _ _ _ _
   | exact laws_heldState.mono _ _ _ _
   | exact laws_markState.mono _ _ _ _
   | exact laws_szState.mono _ _ _ _
   | exact laws_toState.mono _ _ _
   | exact spec_SayBeat.mono _ _ _ _
   | exact LeO.none _
   | refine LeO.ite ?_ ?_
   | refine LeO.bind ?_ (fun _ => ?_)
theorem laws_FnExactSayBeat.mono : ∀ a0 a1 a2 k, LeO (laws_FnExactSayBeat.f k a0 a1 a2) (laws_FnExactSayBeat.f (k + 1) a0 a1 a2) := by
 intro a0 a1 a2 k
 obtain ⟨ih0, ih1, ih2⟩ := laws_FnExactSayBeat.mono_l k
 unfold laws_FnExactSayBeat.f
 repeat' first
   | (with_reducible exact ih0 _ _ _ _ _ _ _ _ _ _ _ _)
   | (with_reducible exact ih1 _ _ _ _ _ _ _ _ _)
   | (with_reducible exact ih2 _ _ _ _)
   | (with_reducible exact impl_SayBeat.mono _ _ _ _)
   | (with_reducible exact laws_eqState.mono _ _ _ _ _)
   | (with_reducible exact laws_heldState.mono _ _ _ _)
   | (with_reducible exact laws_markState.mono _ _ _ _)
   | (with_reducible exact laws_szState.mono _ _ _ _)
   | (with_reducible exact laws_toState.mono _ _ _)
   | (with_reducible exact spec_SayBeat.mono _ _ _ _)
   | (with_reducible exact LeO.refl _)
   | (with_reducible exact LeO.none _)
   | (with_reducible refine LeO.ite ?_ ?_)
   | (with_reducible refine LeO.bind ?_ (fun _ => ?_))
   | exact ih0 _ _ _ _ _ _ _ _ _ _ _ _
   | exact ih1 _ _ _ _ _ _ _ _ _
   | exact ih2 _ _ _ _
   | exact impl_SayBeat.mono _ _ _ _
   | exact laws_eqState.mono _ _ _ _ _
   | exact laws_heldState.mono _ _ _ _
   | exact laws_markState.mono _ _ _ _
   | exact laws_szState.mono _ _ _ _
   | exact laws_toState.mono _ _ _
   | exact spec_SayBeat.mono _ _ _ _
   | exact LeO.none _
   | refine LeO.ite ?_ ?_
   | refine LeO.bind ?_ (fun _ => ?_)
set_option maxHeartbeats 8000000 in
set_option maxRecDepth 100000 in
theorem laws_FnExactSayBeat.calls (k : Nat) (A0_0 : Option Addr) (c0_0 : Nat) (l0_0 : List (S94)) (A0_1 : Option Addr) (c0_1 : Nat) (l0_1 : List (S98)) (a1 : Int) (r : Bool) (w : World) (hr0_0 : Kd.C k94 w A0_0 l0_0.length l0_0) (hc0_0 : l0_0.length ≤ c0_0) (hr0_1 : Kd.C k98 w A0_1 l0_1.length l0_1) (hc0_1 : l0_1.length ≤ c0_1) (h : laws_FnExactSayBeat.f k l0_0 l0_1 a1 = some r) :
  Calls Try.prog 6 #[.agg #[.slice A0_0 l0_0.length c0_0, .slice A0_1 l0_1.length c0_1], .int .i64 a1] w fun e w' => e = .returned (.bool r) ∧ Below w.heap.size w w' := by
 have hu25 := Try.underlying25
 have hu32 := Try.underlying32
 have HR0_0 := zm hr0_0
 have HC0_0 := zm hc0_0
 clear hr0_0 hc0_0
 have HR0_1 := zm hr0_1
 have HC0_1 := zm hc0_1
 clear hr0_1 hc0_1
 have HB := zm (Below.refl w.heap.size w)
 have H : ((laws_szState.f k l0_0 l0_1 1048576).bind fun t632 => (if t632 < 0 then (some true) else ((laws_toState.f k l0_0 l0_1).bind fun bt633 => ((spec_SayBeat.f k bt633.1 bt633.2 a1).bind fun bt639 => ((laws_toState.f k l0_0 l0_1).bind fun bt647 => ((impl_SayBeat.f k bt647.1 bt647.2 a1).bind fun bt654 => ((laws_eqState.f k bt654.1 bt654.2.1 bt639.1 bt639.2.1).bind fun t662 => (if t662 = true then (laws_FnExactSayBeat.j0 k a1 bt639.2.2 bt654.2.2 (bt654.2.2 != bt639.2.2) l0_0 l0_1 bt639.1 bt639.2.1 bt647.1 bt647.2 bt654.1 bt654.2.1) else (laws_FnExactSayBeat.j0 k a1 bt639.2.2 bt654.2.2 true l0_0 l0_1 bt639.1 bt639.2.1 bt647.1 bt647.2 bt654.1 bt654.2.1))))))))) = some r := h
 clear h
 replace H := Option.bind_eq_some_iff.mp H
 obtain ⟨t632, A30, H⟩ := H
 replace H : (if t632 < 0 then (some true) else ((laws_toState.f k l0_0 l0_1).bind fun bt633 => ((spec_SayBeat.f k bt633.1 bt633.2 a1).bind fun bt639 => ((laws_toState.f k l0_0 l0_1).bind fun bt647 => ((impl_SayBeat.f k bt647.1 bt647.2 a1).bind fun bt654 => ((laws_eqState.f k bt654.1 bt654.2.1 bt639.1 bt639.2.1).bind fun t662 => (if t662 = true then (laws_FnExactSayBeat.j0 k a1 bt639.2.2 bt654.2.2 (bt654.2.2 != bt639.2.2) l0_0 l0_1 bt639.1 bt639.2.1 bt647.1 bt647.2 bt654.1 bt654.2.1) else (laws_FnExactSayBeat.j0 k a1 bt639.2.2 bt654.2.2 true l0_0 l0_1 bt639.1 bt639.2.1 bt647.1 bt647.2 bt654.1 bt654.2.1)))))))) = some r := H
 have A3 := zm A30
 clear A30
 by_cases c4 : t632 < 0
 ·rw [if_pos c4] at H
  have c4b0 : decide (t632 < 0) = true := decide_eq_true c4
  clear c4
  obtain rfl := Option.some.inj H
  go_enter Try.func6, Try.ntmps6
  go_wp2_with (first | ((with_reducible refine gate_dst (N := 2) rfl ?_); refine zbox 2 #[.slice A0_0 l0_0.length c0_0, .slice A0_1 l0_1.length c0_1] 25 ?_; intro gb631 hg w5 hbox hb; have BK631 := zm (hbox); have GW631 := zge w hg zB; have GE631 := zge w hg zB; replace HB := zm (below_step zB hb); clear hb hbox hg; have hcz6_0 : w5.cell? ⟨gb631, 0, none⟩ = some (.slice A0_0 l0_0.length c0_0) := (blk_cell BK631.out 0).trans rfl; have hcz6_1 : w5.cell? ⟨gb631, 1, none⟩ = some (.slice A0_1 l0_1.length c0_1) := (blk_cell BK631.out 1).trans rfl; have hfz6_0 := blk_frozen BK631.out 0; have hfz6_1 := blk_frozen BK631.out 1) | ((with_reducible refine gate_callee (f := 13) rfl ?_); refine zg (some 18) #[.agg #[.slice A0_0 l0_0.length c0_0, .slice A0_1 l0_1.length c0_1], .int .i64 1048576] Try.func13 ?_; (with_reducible refine (laws_szState.calls k _ _ l0_0 _ _ l0_1 1048576 t632 _ (zk (Kd.C_below HR0_0.out HB.out)) HC0_0.out (zk (Kd.C_below HR0_1.out HB.out)) HC0_1.out A3.out).mono ?_); rintro e w7 ⟨rfl, hb⟩; refine ⟨_, rfl, ?_⟩; replace BK631 := zm (blk_below (zb BK631) hb); replace HB := zm (below_step zB hb); clear hb))
  go_ret
  exact ⟨zE, zB⟩
 ·rw [if_neg c4] at H
  have c4b0 : decide (t632 < 0) = false := decide_eq_false c4
  clear c4
  replace H := Option.bind_eq_some_iff.mp H
  obtain ⟨⟨t633, t636⟩, A80, H⟩ := H
  replace H : ((spec_SayBeat.f k t633 t636 a1).bind fun bt639 => ((laws_toState.f k l0_0 l0_1).bind fun bt647 => ((impl_SayBeat.f k bt647.1 bt647.2 a1).bind fun bt654 => ((laws_eqState.f k bt654.1 bt654.2.1 bt639.1 bt639.2.1).bind fun t662 => (if t662 = true then (laws_FnExactSayBeat.j0 k a1 bt639.2.2 bt654.2.2 (bt654.2.2 != bt639.2.2) l0_0 l0_1 bt639.1 bt639.2.1 bt647.1 bt647.2 bt654.1 bt654.2.1) else (laws_FnExactSayBeat.j0 k a1 bt639.2.2 bt654.2.2 true l0_0 l0_1 bt639.1 bt639.2.1 bt647.1 bt647.2 bt654.1 bt654.2.1)))))) = some r := H
  have A8 := zm A80
  clear A80
  replace H := Option.bind_eq_some_iff.mp H
  obtain ⟨⟨t639, t642, t645⟩, A90, H⟩ := H
  replace H : ((laws_toState.f k l0_0 l0_1).bind fun bt647 => ((impl_SayBeat.f k bt647.1 bt647.2 a1).bind fun bt654 => ((laws_eqState.f k bt654.1 bt654.2.1 t639 t642).bind fun t662 => (if t662 = true then (laws_FnExactSayBeat.j0 k a1 t645 bt654.2.2 (bt654.2.2 != t645) l0_0 l0_1 t639 t642 bt647.1 bt647.2 bt654.1 bt654.2.1) else (laws_FnExactSayBeat.j0 k a1 t645 bt654.2.2 true l0_0 l0_1 t639 t642 bt647.1 bt647.2 bt654.1 bt654.2.1))))) = some r := H
  have A9 := zm A90
  clear A90
  replace H := Option.bind_eq_some_iff.mp H
  obtain ⟨⟨t647, t650⟩, A100, H⟩ := H
  replace H : ((impl_SayBeat.f k t647 t650 a1).bind fun bt654 => ((laws_eqState.f k bt654.1 bt654.2.1 t639 t642).bind fun t662 => (if t662 = true then (laws_FnExactSayBeat.j0 k a1 t645 bt654.2.2 (bt654.2.2 != t645) l0_0 l0_1 t639 t642 t647 t650 bt654.1 bt654.2.1) else (laws_FnExactSayBeat.j0 k a1 t645 bt654.2.2 true l0_0 l0_1 t639 t642 t647 t650 bt654.1 bt654.2.1)))) = some r := H
  have A10 := zm A100
  clear A100
  replace H := Option.bind_eq_some_iff.mp H
  obtain ⟨⟨t654, t657, t660⟩, A110, H⟩ := H
  replace H : ((laws_eqState.f k t654 t657 t639 t642).bind fun t662 => (if t662 = true then (laws_FnExactSayBeat.j0 k a1 t645 t660 (t660 != t645) l0_0 l0_1 t639 t642 t647 t650 t654 t657) else (laws_FnExactSayBeat.j0 k a1 t645 t660 true l0_0 l0_1 t639 t642 t647 t650 t654 t657))) = some r := H
  have A11 := zm A110
  clear A110
  have HC12 := zm H
  clear H
  go_enter Try.func6, Try.ntmps6
  go_upto_region 8 with (first | ((with_reducible refine gate_dst (N := 2) rfl ?_); refine zbox 2 #[.slice A0_0 l0_0.length c0_0, .slice A0_1 l0_1.length c0_1] 25 ?_; intro gb631 hg w13 hbox hb; have BK631 := zm (hbox); have GW631 := zge w hg zB; have GE631 := zge w hg zB; replace HB := zm (below_step zB hb); clear hb hbox hg; have hcz14_0 : w13.cell? ⟨gb631, 0, none⟩ = some (.slice A0_0 l0_0.length c0_0) := (blk_cell BK631.out 0).trans rfl; have hcz14_1 : w13.cell? ⟨gb631, 1, none⟩ = some (.slice A0_1 l0_1.length c0_1) := (blk_cell BK631.out 1).trans rfl; have hfz14_0 := blk_frozen BK631.out 0; have hfz14_1 := blk_frozen BK631.out 1) | ((with_reducible refine gate_callee (f := 13) rfl ?_); refine zg (some 18) #[.agg #[.slice A0_0 l0_0.length c0_0, .slice A0_1 l0_1.length c0_1], .int .i64 1048576] Try.func13 ?_; (with_reducible refine (laws_szState.calls k _ _ l0_0 _ _ l0_1 1048576 t632 _ (zk (Kd.C_below HR0_0.out HB.out)) HC0_0.out (zk (Kd.C_below HR0_1.out HB.out)) HC0_1.out A3.out).mono ?_); rintro e w15 ⟨rfl, hb⟩; refine ⟨_, rfl, ?_⟩; replace BK631 := zm (blk_below (zb BK631) hb); replace HB := zm (below_step zB hb); clear hb; have hcz16_0 : w15.cell? ⟨gb631, 0, none⟩ = some (.slice A0_0 l0_0.length c0_0) := (blk_cell BK631.out 0).trans rfl; have hcz16_1 : w15.cell? ⟨gb631, 1, none⟩ = some (.slice A0_1 l0_1.length c0_1) := (blk_cell BK631.out 1).trans rfl; have hfz16_0 := blk_frozen BK631.out 0; have hfz16_1 := blk_frozen BK631.out 1) | ((with_reducible refine gate_callee (f := 15) rfl ?_); refine zg (some 23) #[.agg #[.slice A0_0 l0_0.length c0_0, .slice A0_1 l0_1.length c0_1]] Try.func15 ?_; (with_reducible refine (laws_toState.calls k _ _ l0_0 _ _ l0_1 t633 t636 _ (zk (Kd.C_below HR0_0.out HB.out)) HC0_0.out (zk (Kd.C_below HR0_1.out HB.out)) HC0_1.out A8.out).mono ?_); rintro e w17 ⟨v634, v637, rfl, ho0, ho1, hb⟩; refine ⟨_, rfl, ?_⟩; have HO635 := zm (Kd.R_lower ho0 (below_size zB)); have HO638 := zm (Kd.R_lower ho1 (below_size zB)); replace BK631 := zm (blk_below (zb BK631) hb); replace HB := zm (below_step zB hb); clear hb ho0 ho1; obtain ⟨Ao18, co18, eo18⟩ := Kd.R_slice HO635.out; subst eo18; obtain ⟨Ao19, co19, eo19⟩ := Kd.R_slice HO638.out; subst eo19) | ((with_reducible refine gate_callee (f := 27) rfl ?_); refine zg (some 25) #[.agg #[.slice Ao18 t633.length co18, .slice Ao19 t636.length co19], .int .i64 a1] Try.func27 ?_; (with_reducible refine (spec_SayBeat.calls k _ _ t633 _ _ t636 a1 t639 t642 t645 _ ?side1 ?side2 ?side3 ?side4 A9.out).mono ?_); (case side1 => repeat (first | exact (Kd.R_reads' HO635.out).2.2 | (with_reducible refine Kd.C_alloc ?_ _) | (with_reducible refine Kd.C_drewN ?_ _) | (with_reducible refine Kd.C_drew ?_))); (case side2 => exact (Kd.R_reads' HO635.out).2.1); (case side3 => repeat (first | exact (Kd.R_reads' HO638.out).2.2 | (with_reducible refine Kd.C_alloc ?_ _) | (with_reducible refine Kd.C_drewN ?_ _) | (with_reducible refine Kd.C_drew ?_))); (case side4 => exact (Kd.R_reads' HO638.out).2.1); rintro e w20 ⟨v640, v643, rfl, ho0, ho1, hb⟩; refine ⟨_, rfl, ?_⟩; have HO641 := zm (Kd.R_lower (Kd.R_new' ho0 (Kd.R_lt (zr HO635))) (below_size zB)); replace HO635 := zm (Kd.R_elder' (zr HO635) (Kd.R_base ho0) hb); have HO644 := zm (Kd.R_lower (Kd.R_new' ho1 (Kd.R_lt (zr HO638))) (below_size zB)); replace HO638 := zm (Kd.R_elder' (zr HO638) (Kd.R_base ho1) hb); replace BK631 := zm (blk_below (zb BK631) hb); replace HB := zm (below_step zB hb); clear hb ho0 ho1) | ((with_reducible refine gate_dst (N := 6) rfl ?_); refine zbox 6 #[.slice none 0 0, .slice none 0 0] 32 ?_; intro gb646 hg w21 hbox hb; replace HO635 := zm (Kd.R_below (zr HO635) hb); replace HO638 := zm (Kd.R_below (zr HO638) hb); replace HO641 := zm (Kd.R_below (zr HO641) hb); replace HO644 := zm (Kd.R_below (zr HO644) hb); have BK646 := zm (hbox); have GW646 := zge w hg zB; have GE646 := zge w hg zB; replace HB := zm (below_step zB hb); have NB631_646 := zlt hg (zb BK631); have NB646_631 := zgt hg (zb BK631); replace BK631 := zm (blk_below (zb BK631) hb); clear hb hbox hg; obtain ⟨Ao22, co22, eo22⟩ := Kd.R_slice HO641.out; subst eo22; have hnb23 := NB646_631.out; have hnc23 := NB631_646.out; have hcz24_0 : w21.cell? ⟨gb646, 0, none⟩ = some (.slice none 0 0) := (blk_cell BK646.out 0).trans rfl; have hcz24_1 : w21.cell? ⟨gb646, 1, none⟩ = some (.slice none 0 0) := (blk_cell BK646.out 1).trans rfl; have hfz24_0 := blk_frozen BK646.out 0; have hfz24_1 := blk_frozen BK646.out 1; obtain ⟨Ao25, co25, eo25⟩ := Kd.R_slice HO644.out; subst eo25; have hcz26_0 : w21.cell? ⟨gb631, 0, none⟩ = some (.slice A0_0 l0_0.length c0_0) := (blk_cell BK631.out 0).trans rfl; have hcz26_1 : w21.cell? ⟨gb631, 1, none⟩ = some (.slice A0_1 l0_1.length c0_1) := (blk_cell BK631.out 1).trans rfl; have hfz26_0 := blk_frozen BK631.out 0; have hfz26_1 := blk_frozen BK631.out 1) | ((with_reducible refine gate_callee (f := 15) rfl ?_); refine zg (some 29) #[.agg #[.slice A0_0 l0_0.length c0_0, .slice A0_1 l0_1.length c0_1]] Try.func15 ?_; (with_reducible refine (laws_toState.calls k _ _ l0_0 _ _ l0_1 t647 t650 _ ?side1 HC0_0.out ?side3 HC0_1.out A10.out).mono ?_); (case side1 => exact Kd.C_below HR0_0.out zB); (case side3 => exact Kd.C_below HR0_1.out zB); rintro e w27 ⟨v648, v651, rfl, ho0, ho1, hb⟩; refine ⟨_, rfl, ?_⟩; have HO649 := zm (Kd.R_lower (Kd.R_new' (Kd.R_new' ho0 (Kd.R_lt (zrs <| (Kd.R_mono (zfr (zfr (Kd.R_types HO635.out BK646.out (by decide)))) (fun _ h_ => h_.1))))) (Kd.R_lt (zrs <| (Kd.R_mono (zfr (zfr (Kd.R_types HO641.out BK646.out (by decide)))) (fun _ h_ => h_.1))))) (below_size zB)); replace HO635 := zm (Kd.R_elder' (zrs <| (Kd.R_mono (zfr (zfr (Kd.R_types HO635.out BK646.out (by decide)))) (fun _ h_ => h_.1))) (Kd.R_base ho0) hb); replace HO641 := zm (Kd.R_elder' (zrs <| (Kd.R_mono (zfr (zfr (Kd.R_types HO641.out BK646.out (by decide)))) (fun _ h_ => h_.1))) (Kd.R_base ho0) hb); have HO652 := zm (Kd.R_lower (Kd.R_new' (Kd.R_new' ho1 (Kd.R_lt (zrs <| (Kd.R_mono (zfr (zfr (Kd.R_types HO638.out BK646.out (by decide)))) (fun _ h_ => h_.1))))) (Kd.R_lt (zrs <| (Kd.R_mono (zfr (zfr (Kd.R_types HO644.out BK646.out (by decide)))) (fun _ h_ => h_.1))))) (below_size zB)); replace HO638 := zm (Kd.R_elder' (zrs <| (Kd.R_mono (zfr (zfr (Kd.R_types HO638.out BK646.out (by decide)))) (fun _ h_ => h_.1))) (Kd.R_base ho1) hb); replace HO644 := zm (Kd.R_elder' (zrs <| (Kd.R_mono (zfr (zfr (Kd.R_types HO644.out BK646.out (by decide)))) (fun _ h_ => h_.1))) (Kd.R_base ho1) hb); replace BK631 := zm (blk_below (g := gb631) (o := .cells #[.slice A0_0 l0_0.length c0_0, .slice A0_1 l0_1.length c0_1] 25 (0, 0)) (zfar (zfar (zb BK631) NB631_646) NB631_646) hb); replace BK646 := zm (blk_below (g := gb646) (o := .cells #[.slice Ao22 t639.length co22, .slice Ao25 t642.length co25] 32 (0, 0)) (zput (zput (zb BK646) 0) 1) hb); replace HB := zm (below_step zB hb); clear hb ho0 ho1) | ((with_reducible refine gate_dst (N := 8) rfl ?_); refine zbox 8 #[.slice none 0 0, .slice none 0 0] 32 ?_; intro gb653 hg w28 hbox hb; replace HO635 := zm (Kd.R_below (zr HO635) hb); replace HO638 := zm (Kd.R_below (zr HO638) hb); replace HO641 := zm (Kd.R_below (zr HO641) hb); replace HO644 := zm (Kd.R_below (zr HO644) hb); replace HO649 := zm (Kd.R_below (zr HO649) hb); replace HO652 := zm (Kd.R_below (zr HO652) hb); have BK653 := zm (hbox); have GW653 := zge w hg zB; have GE653 := zge w hg zB; replace HB := zm (below_step zB hb); have NB631_653 := zlt hg (zb BK631); have NB653_631 := zgt hg (zb BK631); replace BK631 := zm (blk_below (zb BK631) hb); have NB646_653 := zlt hg (zb BK646); have NB653_646 := zgt hg (zb BK646); replace BK646 := zm (blk_below (zb BK646) hb); clear hb hbox hg; obtain ⟨Ao29, co29, eo29⟩ := Kd.R_slice HO649.out; subst eo29; have hnb30 := NB653_631.out; have hnc30 := NB631_653.out; have hnb31 := NB653_646.out; have hnc31 := NB646_653.out; have hcz32_0 : w28.cell? ⟨gb653, 0, none⟩ = some (.slice none 0 0) := (blk_cell BK653.out 0).trans rfl; have hcz32_1 : w28.cell? ⟨gb653, 1, none⟩ = some (.slice none 0 0) := (blk_cell BK653.out 1).trans rfl; have hfz32_0 := blk_frozen BK653.out 0; have hfz32_1 := blk_frozen BK653.out 1; obtain ⟨Ao33, co33, eo33⟩ := Kd.R_slice HO652.out; subst eo33) | ((with_reducible refine gate_callee (f := 28) rfl ?_); refine zg (some 33) #[.agg #[.slice Ao29 t647.length co29, .slice Ao33 t650.length co33], .int .i64 a1] Try.func28 ?_; (with_reducible refine (impl_SayBeat.calls k _ _ t647 _ _ t650 a1 t654 t657 t660 _ ?side1 ?side2 ?side3 ?side4 A11.out).mono ?_); (case side1 => refine (Kd.R_reads' (e := 68) (base := w.heap.size) (ok := fun k_ => ((True ∧ some k_ ≠ (.slice Ao18 t633.length co18 : Value).ownBlock) ∧ some k_ ≠ (.slice Ao22 t639.length co22 : Value).ownBlock)) (n := t647.length) (c := co29) ?_).2.2; exact (zrs <| (Kd.R_mono (zfr (zfr (Kd.R_types HO649.out BK653.out (by decide)))) (fun _ h_ => h_.1)))); (case side2 => exact (Kd.R_reads' HO649.out).2.1); (case side3 => refine (Kd.R_reads' (e := 72) (base := w.heap.size) (ok := fun k_ => ((True ∧ some k_ ≠ (.slice Ao19 t636.length co19 : Value).ownBlock) ∧ some k_ ≠ (.slice Ao25 t642.length co25 : Value).ownBlock)) (n := t650.length) (c := co33) ?_).2.2; exact (zrs <| (Kd.R_mono (zfr (zfr (Kd.R_types HO652.out BK653.out (by decide)))) (fun _ h_ => h_.1)))); (case side4 => exact (Kd.R_reads' HO652.out).2.1); rintro e w34 ⟨v655, v658, rfl, ho0, ho1, hb⟩; refine ⟨_, rfl, ?_⟩; have HO656 := zm (Kd.R_lower (Kd.R_new' (Kd.R_new' (Kd.R_new' ho0 (Kd.R_lt (zrs <| (Kd.R_mono (zfr (zfr (Kd.R_types HO635.out BK653.out (by decide)))) (fun _ h_ => h_.1))))) (Kd.R_lt (zrs <| (Kd.R_mono (zfr (zfr (Kd.R_types HO641.out BK653.out (by decide)))) (fun _ h_ => h_.1))))) (Kd.R_lt (zrs <| (Kd.R_mono (zfr (zfr (Kd.R_types HO649.out BK653.out (by decide)))) (fun _ h_ => h_.1))))) (below_size zB)); replace HO635 := zm (Kd.R_elder' (zrs <| (Kd.R_mono (zfr (zfr (Kd.R_types HO635.out BK653.out (by decide)))) (fun _ h_ => h_.1))) (Kd.R_base ho0) hb); replace HO641 := zm (Kd.R_elder' (zrs <| (Kd.R_mono (zfr (zfr (Kd.R_types HO641.out BK653.out (by decide)))) (fun _ h_ => h_.1))) (Kd.R_base ho0) hb); replace HO649 := zm (Kd.R_elder' (zrs <| (Kd.R_mono (zfr (zfr (Kd.R_types HO649.out BK653.out (by decide)))) (fun _ h_ => h_.1))) (Kd.R_base ho0) hb); have HO659 := zm (Kd.R_lower (Kd.R_new' (Kd.R_new' (Kd.R_new' ho1 (Kd.R_lt (zrs <| (Kd.R_mono (zfr (zfr (Kd.R_types HO638.out BK653.out (by decide)))) (fun _ h_ => h_.1))))) (Kd.R_lt (zrs <| (Kd.R_mono (zfr (zfr (Kd.R_types HO644.out BK653.out (by decide)))) (fun _ h_ => h_.1))))) (Kd.R_lt (zrs <| (Kd.R_mono (zfr (zfr (Kd.R_types HO652.out BK653.out (by decide)))) (fun _ h_ => h_.1))))) (below_size zB)); replace HO638 := zm (Kd.R_elder' (zrs <| (Kd.R_mono (zfr (zfr (Kd.R_types HO638.out BK653.out (by decide)))) (fun _ h_ => h_.1))) (Kd.R_base ho1) hb); replace HO644 := zm (Kd.R_elder' (zrs <| (Kd.R_mono (zfr (zfr (Kd.R_types HO644.out BK653.out (by decide)))) (fun _ h_ => h_.1))) (Kd.R_base ho1) hb); replace HO652 := zm (Kd.R_elder' (zrs <| (Kd.R_mono (zfr (zfr (Kd.R_types HO652.out BK653.out (by decide)))) (fun _ h_ => h_.1))) (Kd.R_base ho1) hb); replace BK631 := zm (blk_below (g := gb631) (o := .cells #[.slice A0_0 l0_0.length c0_0, .slice A0_1 l0_1.length c0_1] 25 (0, 0)) (zfar (zfar (zb BK631) NB631_653) NB631_653) hb); replace BK646 := zm (blk_below (g := gb646) (o := .cells #[.slice Ao22 t639.length co22, .slice Ao25 t642.length co25] 32 (0, 0)) (zfar (zfar (zb BK646) NB646_653) NB646_653) hb); replace BK653 := zm (blk_below (g := gb653) (o := .cells #[.slice Ao29 t647.length co29, .slice Ao33 t650.length co33] 32 (0, 0)) (zput (zput (zb BK653) 0) 1) hb); replace HB := zm (below_step zB hb); clear hb ho0 ho1) | ((with_reducible refine gate_dst (N := 9) rfl ?_); refine zbox 9 #[.slice none 0 0, .slice none 0 0] 32 ?_; intro gb661 hg w35 hbox hb; replace HO635 := zm (Kd.R_below (zr HO635) hb); replace HO638 := zm (Kd.R_below (zr HO638) hb); replace HO641 := zm (Kd.R_below (zr HO641) hb); replace HO644 := zm (Kd.R_below (zr HO644) hb); replace HO649 := zm (Kd.R_below (zr HO649) hb); replace HO652 := zm (Kd.R_below (zr HO652) hb); replace HO656 := zm (Kd.R_below (zr HO656) hb); replace HO659 := zm (Kd.R_below (zr HO659) hb); have BK661 := zm (hbox); have GW661 := zge w hg zB; have GE661 := zge w hg zB; replace HB := zm (below_step zB hb); have NB631_661 := zlt hg (zb BK631); have NB661_631 := zgt hg (zb BK631); replace BK631 := zm (blk_below (zb BK631) hb); have NB646_661 := zlt hg (zb BK646); have NB661_646 := zgt hg (zb BK646); replace BK646 := zm (blk_below (zb BK646) hb); have NB653_661 := zlt hg (zb BK653); have NB661_653 := zgt hg (zb BK653); replace BK653 := zm (blk_below (zb BK653) hb); clear hb hbox hg; obtain ⟨Ao36, co36, eo36⟩ := Kd.R_slice HO656.out; subst eo36; have hnb37 := NB661_631.out; have hnc37 := NB631_661.out; have hnb38 := NB661_646.out; have hnc38 := NB646_661.out; have hnb39 := NB661_653.out; have hnc39 := NB653_661.out; have hcz40_0 : w35.cell? ⟨gb661, 0, none⟩ = some (.slice none 0 0) := (blk_cell BK661.out 0).trans rfl; have hcz40_1 : w35.cell? ⟨gb661, 1, none⟩ = some (.slice none 0 0) := (blk_cell BK661.out 1).trans rfl; have hfz40_0 := blk_frozen BK661.out 0; have hfz40_1 := blk_frozen BK661.out 1; obtain ⟨Ao41, co41, eo41⟩ := Kd.R_slice HO659.out; subst eo41))
  (try simp only [Act.put, List.setIfInBounds_toArray, List.set_cons_zero, List.set_cons_succ])
  go_cut [44] (fun v44 wc => ∃ (kq : Nat) (x44_11 : Bool), v44 = .bool x44_11 ∧ Aside0 (laws_FnExactSayBeat.j0 kq a1 t645 t660 x44_11 l0_0 l0_1 t639 t642 t647 t650 t654 t657 = some r) ∧ Aside0 (kq ≤ k) ∧ Aside0 (Kd.R k68 68 wc w.heap.size (fun k_ => some k_ ≠ ((.slice Ao29 t647.length co29) : Value).ownBlock ∧ some k_ ≠ ((.slice Ao36 t654.length co36) : Value).ownBlock) (.slice Ao22 t639.length co22) t639) ∧ Aside0 (Kd.R k72 72 wc w.heap.size (fun k_ => some k_ ≠ ((.slice Ao33 t650.length co33) : Value).ownBlock ∧ some k_ ≠ ((.slice Ao41 t657.length co41) : Value).ownBlock) (.slice Ao25 t642.length co25) t642) ∧ Aside0 (Kd.R k68 68 wc w.heap.size (fun k_ => some k_ ≠ ((.slice Ao22 t639.length co22) : Value).ownBlock ∧ some k_ ≠ ((.slice Ao36 t654.length co36) : Value).ownBlock) (.slice Ao29 t647.length co29) t647) ∧ Aside0 (Kd.R k72 72 wc w.heap.size (fun k_ => some k_ ≠ ((.slice Ao25 t642.length co25) : Value).ownBlock ∧ some k_ ≠ ((.slice Ao41 t657.length co41) : Value).ownBlock) (.slice Ao33 t650.length co33) t650) ∧ Aside0 (Kd.R k68 68 wc w.heap.size (fun k_ => some k_ ≠ ((.slice Ao22 t639.length co22) : Value).ownBlock ∧ some k_ ≠ ((.slice Ao29 t647.length co29) : Value).ownBlock) (.slice Ao36 t654.length co36) t654) ∧ Aside0 (Kd.R k72 72 wc w.heap.size (fun k_ => some k_ ≠ ((.slice Ao25 t642.length co25) : Value).ownBlock ∧ some k_ ≠ ((.slice Ao33 t650.length co33) : Value).ownBlock) (.slice Ao41 t657.length co41) t657) ∧ Aside0 (wc.heap[gb631]? = some (.cells #[(.slice A0_0 l0_0.length c0_0), (.slice A0_1 l0_1.length c0_1)] 25 (0, 0))) ∧ Aside0 (wc.heap[gb646]? = some (.cells #[(.slice Ao22 t639.length co22), (.slice Ao25 t642.length co25)] 32 (0, 0))) ∧ Aside0 (wc.heap[gb653]? = some (.cells #[(.slice Ao29 t647.length co29), (.slice Ao33 t650.length co33)] 32 (0, 0))) ∧ Aside0 (wc.heap[gb661]? = some (.cells #[(.slice Ao36 t654.length co36), (.slice Ao41 t657.length co41)] 32 (0, 0))) ∧ Aside0 (Below w.heap.size w wc))
  case first =>
   have H := HC12.out
   clear HC12
   replace H := Option.bind_eq_some_iff.mp H
   obtain ⟨t662, A420, H⟩ := H
   replace H : (if t662 = true then (laws_FnExactSayBeat.j0 k a1 t645 t660 (t660 != t645) l0_0 l0_1 t639 t642 t647 t650 t654 t657) else (laws_FnExactSayBeat.j0 k a1 t645 t660 true l0_0 l0_1 t639 t642 t647 t650 t654 t657)) = some r := H
   have A42 := zm A420
   clear A420
   by_cases c43 : t662 = true
   ·subst c43
    have H1 : (laws_FnExactSayBeat.j0 k a1 t645 t660 (t660 != t645) l0_0 l0_1 t639 t642 t647 t650 t654 t657) = some r := by rw [if_pos rfl] at H; exact H
    clear H
    have H := H1
    clear H1
    have H' := zm H
    clear H
    have hnb44 := NB661_631.out
    have hnc44 := NB631_661.out
    have hnb45 := NB661_646.out
    have hnc45 := NB646_661.out
    have hnb46 := NB661_653.out
    have hnc46 := NB653_661.out
    have hcz47_0 : w35.cell? ⟨gb661, 0, none⟩ = some (.slice none 0 0) := (blk_cell BK661.out 0).trans rfl
    have hcz47_1 : w35.cell? ⟨gb661, 1, none⟩ = some (.slice none 0 0) := (blk_cell BK661.out 1).trans rfl
    have hfz47_0 := blk_frozen BK661.out 0
    have hfz47_1 := blk_frozen BK661.out 1
    have hnb48 := NB646_631.out
    have hnc48 := NB631_646.out
    have hnb49 := NB646_653.out
    have hnc49 := NB653_646.out
    have hcz50_0 : w35.cell? ⟨gb646, 0, none⟩ = some (.slice Ao22 t639.length co22) := (blk_cell BK646.out 0).trans rfl
    have hcz50_1 : w35.cell? ⟨gb646, 1, none⟩ = some (.slice Ao25 t642.length co25) := (blk_cell BK646.out 1).trans rfl
    have hfz50_0 := blk_frozen BK646.out 0
    have hfz50_1 := blk_frozen BK646.out 1
    go_wp2_with (first | ((with_reducible refine gate_callee (f := 18) rfl ?_); refine zg (some 38) #[.agg #[.slice Ao36 t654.length co36, .slice Ao41 t657.length co41], .agg #[.slice Ao22 t639.length co22, .slice Ao25 t642.length co25]] Try.func18 ?_; (with_reducible refine (laws_eqState.calls k _ _ t654 _ _ t657 _ _ t639 _ _ t642 true _ ?side1 ?side2 ?side3 ?side4 ?side5 ?side6 ?side7 ?side8 A42.out).mono ?_); (case side1 => refine (Kd.R_reads' (e := 68) (base := w.heap.size) (ok := fun k_ => (((True ∧ some k_ ≠ (.slice Ao18 t633.length co18 : Value).ownBlock) ∧ some k_ ≠ (.slice Ao22 t639.length co22 : Value).ownBlock) ∧ some k_ ≠ (.slice Ao29 t647.length co29 : Value).ownBlock)) (n := t654.length) (c := co36) ?_).2.2; exact (zrs <| (Kd.R_mono (zfr (zfr (Kd.R_types HO656.out BK661.out (by decide)))) (fun _ h_ => h_.1)))); (case side2 => exact (Kd.R_reads' HO656.out).2.1); (case side3 => refine (Kd.R_reads' (e := 72) (base := w.heap.size) (ok := fun k_ => (((True ∧ some k_ ≠ (.slice Ao19 t636.length co19 : Value).ownBlock) ∧ some k_ ≠ (.slice Ao25 t642.length co25 : Value).ownBlock) ∧ some k_ ≠ (.slice Ao33 t650.length co33 : Value).ownBlock)) (n := t657.length) (c := co41) ?_).2.2; exact (zrs <| (Kd.R_mono (zfr (zfr (Kd.R_types HO659.out BK661.out (by decide)))) (fun _ h_ => h_.1)))); (case side4 => exact (Kd.R_reads' HO659.out).2.1); (case side5 => refine (Kd.R_reads' (e := 68) (base := w.heap.size) (ok := fun k_ => (((True ∧ some k_ ≠ (.slice Ao18 t633.length co18 : Value).ownBlock) ∧ some k_ ≠ (.slice Ao29 t647.length co29 : Value).ownBlock) ∧ some k_ ≠ (.slice Ao36 t654.length co36 : Value).ownBlock)) (n := t639.length) (c := co22) ?_).2.2; exact (zrs <| (Kd.R_mono (zfr (zfr (Kd.R_types HO641.out BK661.out (by decide)))) (fun _ h_ => h_.1)))); (case side6 => exact (Kd.R_reads' HO641.out).2.1); (case side7 => refine (Kd.R_reads' (e := 72) (base := w.heap.size) (ok := fun k_ => (((True ∧ some k_ ≠ (.slice Ao19 t636.length co19 : Value).ownBlock) ∧ some k_ ≠ (.slice Ao33 t650.length co33 : Value).ownBlock) ∧ some k_ ≠ (.slice Ao41 t657.length co41 : Value).ownBlock)) (n := t642.length) (c := co25) ?_).2.2; exact (zrs <| (Kd.R_mono (zfr (zfr (Kd.R_types HO644.out BK661.out (by decide)))) (fun _ h_ => h_.1)))); (case side8 => exact (Kd.R_reads' HO644.out).2.1); rintro e w51 ⟨rfl, hb⟩; refine ⟨_, rfl, ?_⟩; replace HO635 := zm (Kd.R_below (zrs <| (Kd.R_mono (zfr (zfr (Kd.R_types HO635.out BK661.out (by decide)))) (fun _ h_ => h_.1))) hb); replace HO638 := zm (Kd.R_below (zrs <| (Kd.R_mono (zfr (zfr (Kd.R_types HO638.out BK661.out (by decide)))) (fun _ h_ => h_.1))) hb); replace HO641 := zm (Kd.R_below (zrs <| (Kd.R_mono (zfr (zfr (Kd.R_types HO641.out BK661.out (by decide)))) (fun _ h_ => h_.1))) hb); replace HO644 := zm (Kd.R_below (zrs <| (Kd.R_mono (zfr (zfr (Kd.R_types HO644.out BK661.out (by decide)))) (fun _ h_ => h_.1))) hb); replace HO649 := zm (Kd.R_below (zrs <| (Kd.R_mono (zfr (zfr (Kd.R_types HO649.out BK661.out (by decide)))) (fun _ h_ => h_.1))) hb); replace HO652 := zm (Kd.R_below (zrs <| (Kd.R_mono (zfr (zfr (Kd.R_types HO652.out BK661.out (by decide)))) (fun _ h_ => h_.1))) hb); replace HO656 := zm (Kd.R_below (zrs <| (Kd.R_mono (zfr (zfr (Kd.R_types HO656.out BK661.out (by decide)))) (fun _ h_ => h_.1))) hb); replace HO659 := zm (Kd.R_below (zrs <| (Kd.R_mono (zfr (zfr (Kd.R_types HO659.out BK661.out (by decide)))) (fun _ h_ => h_.1))) hb); replace BK631 := zm (blk_below (g := gb631) (o := .cells #[.slice A0_0 l0_0.length c0_0, .slice A0_1 l0_1.length c0_1] 25 (0, 0)) (zfar (zfar (zb BK631) NB631_661) NB631_661) hb); replace BK646 := zm (blk_below (g := gb646) (o := .cells #[.slice Ao22 t639.length co22, .slice Ao25 t642.length co25] 32 (0, 0)) (zfar (zfar (zb BK646) NB646_661) NB646_661) hb); replace BK653 := zm (blk_below (g := gb653) (o := .cells #[.slice Ao29 t647.length co29, .slice Ao33 t650.length co33] 32 (0, 0)) (zfar (zfar (zb BK653) NB653_661) NB653_661) hb); replace BK661 := zm (blk_below (g := gb661) (o := .cells #[.slice Ao36 t654.length co36, .slice Ao41 t657.length co41] 32 (0, 0)) (zput (zput (zb BK661) 0) 1) hb); replace HB := zm (below_step zB hb); clear hb))
    go_meet
    case rel => exact ⟨_, ((t660 != t645)), zF, H', ⟨by first | omega | exact Nat.le_refl _⟩, ⟨by (with_reducible repeat (first | apply Kd.R_alloc | apply Kd.R_drewN | apply Kd.R_drew)); exact Kd.R_mono HO641.out (fun _ hk => ⟨hk.1.2, hk.2⟩)⟩, ⟨by (with_reducible repeat (first | apply Kd.R_alloc | apply Kd.R_drewN | apply Kd.R_drew)); exact Kd.R_mono HO644.out (fun _ hk => ⟨hk.1.2, hk.2⟩)⟩, ⟨by (with_reducible repeat (first | apply Kd.R_alloc | apply Kd.R_drewN | apply Kd.R_drew)); exact Kd.R_mono HO649.out (fun _ hk => ⟨hk.1.2, hk.2⟩)⟩, ⟨by (with_reducible repeat (first | apply Kd.R_alloc | apply Kd.R_drewN | apply Kd.R_drew)); exact Kd.R_mono HO652.out (fun _ hk => ⟨hk.1.2, hk.2⟩)⟩, ⟨by (with_reducible repeat (first | apply Kd.R_alloc | apply Kd.R_drewN | apply Kd.R_drew)); exact Kd.R_mono HO656.out (fun _ hk => ⟨hk.1.2, hk.2⟩)⟩, ⟨by (with_reducible repeat (first | apply Kd.R_alloc | apply Kd.R_drewN | apply Kd.R_drew)); exact Kd.R_mono HO659.out (fun _ hk => ⟨hk.1.2, hk.2⟩)⟩, ⟨zb BK631⟩, ⟨zb BK646⟩, ⟨zb BK653⟩, ⟨zb BK661⟩, ⟨zB⟩⟩
   ·replace c43 := Bool.eq_false_iff.mpr c43
    subst c43
    have H1 : (laws_FnExactSayBeat.j0 k a1 t645 t660 true l0_0 l0_1 t639 t642 t647 t650 t654 t657) = some r := by rw [if_neg (show ¬ (false = true) by decide)] at H; exact H
    clear H
    have H := H1
    clear H1
    have H' := zm H
    clear H
    have hnb52 := NB661_631.out
    have hnc52 := NB631_661.out
    have hnb53 := NB661_646.out
    have hnc53 := NB646_661.out
    have hnb54 := NB661_653.out
    have hnc54 := NB653_661.out
    have hcz55_0 : w35.cell? ⟨gb661, 0, none⟩ = some (.slice none 0 0) := (blk_cell BK661.out 0).trans rfl
    have hcz55_1 : w35.cell? ⟨gb661, 1, none⟩ = some (.slice none 0 0) := (blk_cell BK661.out 1).trans rfl
    have hfz55_0 := blk_frozen BK661.out 0
    have hfz55_1 := blk_frozen BK661.out 1
    have hnb56 := NB646_631.out
    have hnc56 := NB631_646.out
    have hnb57 := NB646_653.out
    have hnc57 := NB653_646.out
    have hcz58_0 : w35.cell? ⟨gb646, 0, none⟩ = some (.slice Ao22 t639.length co22) := (blk_cell BK646.out 0).trans rfl
    have hcz58_1 : w35.cell? ⟨gb646, 1, none⟩ = some (.slice Ao25 t642.length co25) := (blk_cell BK646.out 1).trans rfl
    have hfz58_0 := blk_frozen BK646.out 0
    have hfz58_1 := blk_frozen BK646.out 1
    go_wp2_with (first | ((with_reducible refine gate_callee (f := 18) rfl ?_); refine zg (some 38) #[.agg #[.slice Ao36 t654.length co36, .slice Ao41 t657.length co41], .agg #[.slice Ao22 t639.length co22, .slice Ao25 t642.length co25]] Try.func18 ?_; (with_reducible refine (laws_eqState.calls k _ _ t654 _ _ t657 _ _ t639 _ _ t642 false _ ?side1 ?side2 ?side3 ?side4 ?side5 ?side6 ?side7 ?side8 A42.out).mono ?_); (case side1 => refine (Kd.R_reads' (e := 68) (base := w.heap.size) (ok := fun k_ => (((True ∧ some k_ ≠ (.slice Ao18 t633.length co18 : Value).ownBlock) ∧ some k_ ≠ (.slice Ao22 t639.length co22 : Value).ownBlock) ∧ some k_ ≠ (.slice Ao29 t647.length co29 : Value).ownBlock)) (n := t654.length) (c := co36) ?_).2.2; exact (zrs <| (Kd.R_mono (zfr (zfr (Kd.R_types HO656.out BK661.out (by decide)))) (fun _ h_ => h_.1)))); (case side2 => exact (Kd.R_reads' HO656.out).2.1); (case side3 => refine (Kd.R_reads' (e := 72) (base := w.heap.size) (ok := fun k_ => (((True ∧ some k_ ≠ (.slice Ao19 t636.length co19 : Value).ownBlock) ∧ some k_ ≠ (.slice Ao25 t642.length co25 : Value).ownBlock) ∧ some k_ ≠ (.slice Ao33 t650.length co33 : Value).ownBlock)) (n := t657.length) (c := co41) ?_).2.2; exact (zrs <| (Kd.R_mono (zfr (zfr (Kd.R_types HO659.out BK661.out (by decide)))) (fun _ h_ => h_.1)))); (case side4 => exact (Kd.R_reads' HO659.out).2.1); (case side5 => refine (Kd.R_reads' (e := 68) (base := w.heap.size) (ok := fun k_ => (((True ∧ some k_ ≠ (.slice Ao18 t633.length co18 : Value).ownBlock) ∧ some k_ ≠ (.slice Ao29 t647.length co29 : Value).ownBlock) ∧ some k_ ≠ (.slice Ao36 t654.length co36 : Value).ownBlock)) (n := t639.length) (c := co22) ?_).2.2; exact (zrs <| (Kd.R_mono (zfr (zfr (Kd.R_types HO641.out BK661.out (by decide)))) (fun _ h_ => h_.1)))); (case side6 => exact (Kd.R_reads' HO641.out).2.1); (case side7 => refine (Kd.R_reads' (e := 72) (base := w.heap.size) (ok := fun k_ => (((True ∧ some k_ ≠ (.slice Ao19 t636.length co19 : Value).ownBlock) ∧ some k_ ≠ (.slice Ao33 t650.length co33 : Value).ownBlock) ∧ some k_ ≠ (.slice Ao41 t657.length co41 : Value).ownBlock)) (n := t642.length) (c := co25) ?_).2.2; exact (zrs <| (Kd.R_mono (zfr (zfr (Kd.R_types HO644.out BK661.out (by decide)))) (fun _ h_ => h_.1)))); (case side8 => exact (Kd.R_reads' HO644.out).2.1); rintro e w59 ⟨rfl, hb⟩; refine ⟨_, rfl, ?_⟩; replace HO635 := zm (Kd.R_below (zrs <| (Kd.R_mono (zfr (zfr (Kd.R_types HO635.out BK661.out (by decide)))) (fun _ h_ => h_.1))) hb); replace HO638 := zm (Kd.R_below (zrs <| (Kd.R_mono (zfr (zfr (Kd.R_types HO638.out BK661.out (by decide)))) (fun _ h_ => h_.1))) hb); replace HO641 := zm (Kd.R_below (zrs <| (Kd.R_mono (zfr (zfr (Kd.R_types HO641.out BK661.out (by decide)))) (fun _ h_ => h_.1))) hb); replace HO644 := zm (Kd.R_below (zrs <| (Kd.R_mono (zfr (zfr (Kd.R_types HO644.out BK661.out (by decide)))) (fun _ h_ => h_.1))) hb); replace HO649 := zm (Kd.R_below (zrs <| (Kd.R_mono (zfr (zfr (Kd.R_types HO649.out BK661.out (by decide)))) (fun _ h_ => h_.1))) hb); replace HO652 := zm (Kd.R_below (zrs <| (Kd.R_mono (zfr (zfr (Kd.R_types HO652.out BK661.out (by decide)))) (fun _ h_ => h_.1))) hb); replace HO656 := zm (Kd.R_below (zrs <| (Kd.R_mono (zfr (zfr (Kd.R_types HO656.out BK661.out (by decide)))) (fun _ h_ => h_.1))) hb); replace HO659 := zm (Kd.R_below (zrs <| (Kd.R_mono (zfr (zfr (Kd.R_types HO659.out BK661.out (by decide)))) (fun _ h_ => h_.1))) hb); replace BK631 := zm (blk_below (g := gb631) (o := .cells #[.slice A0_0 l0_0.length c0_0, .slice A0_1 l0_1.length c0_1] 25 (0, 0)) (zfar (zfar (zb BK631) NB631_661) NB631_661) hb); replace BK646 := zm (blk_below (g := gb646) (o := .cells #[.slice Ao22 t639.length co22, .slice Ao25 t642.length co25] 32 (0, 0)) (zfar (zfar (zb BK646) NB646_661) NB646_661) hb); replace BK653 := zm (blk_below (g := gb653) (o := .cells #[.slice Ao29 t647.length co29, .slice Ao33 t650.length co33] 32 (0, 0)) (zfar (zfar (zb BK653) NB653_661) NB653_661) hb); replace BK661 := zm (blk_below (g := gb661) (o := .cells #[.slice Ao36 t654.length co36, .slice Ao41 t657.length co41] 32 (0, 0)) (zput (zput (zb BK661) 0) 1) hb); replace HB := zm (below_step zB hb); clear hb))
    go_meet
    case rel => exact ⟨_, (true), zF, H', ⟨by first | omega | exact Nat.le_refl _⟩, ⟨by (with_reducible repeat (first | apply Kd.R_alloc | apply Kd.R_drewN | apply Kd.R_drew)); exact Kd.R_mono HO641.out (fun _ hk => ⟨hk.1.2, hk.2⟩)⟩, ⟨by (with_reducible repeat (first | apply Kd.R_alloc | apply Kd.R_drewN | apply Kd.R_drew)); exact Kd.R_mono HO644.out (fun _ hk => ⟨hk.1.2, hk.2⟩)⟩, ⟨by (with_reducible repeat (first | apply Kd.R_alloc | apply Kd.R_drewN | apply Kd.R_drew)); exact Kd.R_mono HO649.out (fun _ hk => ⟨hk.1.2, hk.2⟩)⟩, ⟨by (with_reducible repeat (first | apply Kd.R_alloc | apply Kd.R_drewN | apply Kd.R_drew)); exact Kd.R_mono HO652.out (fun _ hk => ⟨hk.1.2, hk.2⟩)⟩, ⟨by (with_reducible repeat (first | apply Kd.R_alloc | apply Kd.R_drewN | apply Kd.R_drew)); exact Kd.R_mono HO656.out (fun _ hk => ⟨hk.1.2, hk.2⟩)⟩, ⟨by (with_reducible repeat (first | apply Kd.R_alloc | apply Kd.R_drewN | apply Kd.R_drew)); exact Kd.R_mono HO659.out (fun _ hk => ⟨hk.1.2, hk.2⟩)⟩, ⟨zb BK631⟩, ⟨zb BK646⟩, ⟨zb BK653⟩, ⟨zb BK661⟩, ⟨zB⟩⟩
  case rest =>
   clear HC12
   try clear c1
   try clear c2
   try clear p2
   try clear c3
   try clear c4
   try clear c4b0
   try clear c5
   try clear c6
   try clear c13
   try clear c15
   try clear c18
   try clear c23
   try clear c27
   try clear c28
   try clear c30
   try clear c31
   try clear c37
   try clear c38
   try clear c39
   try clear c43
   try clear c44
   try clear c45
   try clear c46
   try clear c48
   try clear c49
   try clear c52
   try clear c53
   try clear c54
   try clear c56
   try clear c57
   try clear hcz14_0
   try clear hcz14_1
   try clear hcz16_0
   try clear hcz16_1
   try clear hcz24_0
   try clear hcz24_1
   try clear hcz26_0
   try clear hcz26_1
   try clear hcz32_0
   try clear hcz32_1
   try clear hcz40_0
   try clear hcz40_1
   try clear hcz47_0
   try clear hcz47_1
   try clear hcz50_0
   try clear hcz50_1
   try clear hcz55_0
   try clear hcz55_1
   try clear hcz58_0
   try clear hcz58_1
   try clear hcz6_0
   try clear hcz6_1
   try clear hfz14_0
   try clear hfz14_1
   try clear hfz16_0
   try clear hfz16_1
   try clear hfz24_0
   try clear hfz24_1
   try clear hfz26_0
   try clear hfz26_1
   try clear hfz32_0
   try clear hfz32_1
   try clear hfz40_0
   try clear hfz40_1
   try clear hfz47_0
   try clear hfz47_1
   try clear hfz50_0
   try clear hfz50_1
   try clear hfz55_0
   try clear hfz55_1
   try clear hfz58_0
   try clear hfz58_1
   try clear hfz6_0
   try clear hfz6_1
   obtain ⟨kq, x44_11, rfl, HA, HJ11, HO_647000, HO_647001, HO_654000, HO_654001, HO_662000, HO_662001, BK631, BK646, BK653, BK661, HB⟩ := hcut
   cases kq with
   | zero => exact absurd HA.out (by simp [laws_FnExactSayBeat.j0])
   | succ kj11 =>
    have H := HA.out
    clear HA
    simp only [laws_FnExactSayBeat.j0] at H
    by_cases c60 : x44_11 = true
    ·subst c60
     have H1 : (some false) = some r := by rw [if_pos rfl] at H; exact H
     clear H
     have H := H1
     clear H1
     obtain rfl := Option.some.inj H
     go_wp2
     go_ret
     exact ⟨zE, zB⟩
    ·replace c60 := Bool.eq_false_iff.mpr c60
     subst c60
     have H1 : ((laws_toState.f kj11 l0_0 l0_1).bind fun bt663 => ((laws_eqState.f kj11 t647 t650 bt663.1 bt663.2).bind fun t669 => (if t669 = true then ((laws_markState.f kj11 t647 t650 1).bind fun bt670 => (if bt670.1 < 0 then (laws_FnExactSayBeat.j1 kj11 a1 t645 true l0_0 l0_1 t639 t642 t654 t657) else ((laws_eqState.f kj11 t654 t657 t639 t642).bind fun t673 => (if t673 = true then (laws_FnExactSayBeat.j1 kj11 a1 t645 (t660 != t645) l0_0 l0_1 t639 t642 t654 t657) else (laws_FnExactSayBeat.j1 kj11 a1 t645 true l0_0 l0_1 t639 t642 t654 t657))))) else (some false)))) = some r := by rw [if_neg (show ¬ (false = true) by decide)] at H; exact H
     clear H
     have H := H1
     clear H1
     replace H := Option.bind_eq_some_iff.mp H
     obtain ⟨⟨t663, t666⟩, A610, H⟩ := H
     replace H : ((laws_eqState.f kj11 t647 t650 t663 t666).bind fun t669 => (if t669 = true then ((laws_markState.f kj11 t647 t650 1).bind fun bt670 => (if bt670.1 < 0 then (laws_FnExactSayBeat.j1 kj11 a1 t645 true l0_0 l0_1 t639 t642 t654 t657) else ((laws_eqState.f kj11 t654 t657 t639 t642).bind fun t673 => (if t673 = true then (laws_FnExactSayBeat.j1 kj11 a1 t645 (t660 != t645) l0_0 l0_1 t639 t642 t654 t657) else (laws_FnExactSayBeat.j1 kj11 a1 t645 true l0_0 l0_1 t639 t642 t654 t657))))) else (some false))) = some r := H
     have A61 := zm A610
     clear A610
     replace H := Option.bind_eq_some_iff.mp H
     obtain ⟨t669, A620, H⟩ := H
     replace H : (if t669 = true then ((laws_markState.f kj11 t647 t650 1).bind fun bt670 => (if bt670.1 < 0 then (laws_FnExactSayBeat.j1 kj11 a1 t645 true l0_0 l0_1 t639 t642 t654 t657) else ((laws_eqState.f kj11 t654 t657 t639 t642).bind fun t673 => (if t673 = true then (laws_FnExactSayBeat.j1 kj11 a1 t645 (t660 != t645) l0_0 l0_1 t639 t642 t654 t657) else (laws_FnExactSayBeat.j1 kj11 a1 t645 true l0_0 l0_1 t639 t642 t654 t657))))) else (some false)) = some r := H
     have A62 := zm A620
     clear A620
     by_cases c63 : t669 = true
     ·subst c63
      have H1 : ((laws_markState.f kj11 t647 t650 1).bind fun bt670 => (if bt670.1 < 0 then (laws_FnExactSayBeat.j1 kj11 a1 t645 true l0_0 l0_1 t639 t642 t654 t657) else ((laws_eqState.f kj11 t654 t657 t639 t642).bind fun t673 => (if t673 = true then (laws_FnExactSayBeat.j1 kj11 a1 t645 (t660 != t645) l0_0 l0_1 t639 t642 t654 t657) else (laws_FnExactSayBeat.j1 kj11 a1 t645 true l0_0 l0_1 t639 t642 t654 t657))))) = some r := by rw [if_pos rfl] at H; exact H
      clear H
      have H := H1
      clear H1
      replace H := Option.bind_eq_some_iff.mp H
      obtain ⟨⟨t670, t671, t672⟩, A640, H⟩ := H
      replace H : (if t670 < 0 then (laws_FnExactSayBeat.j1 kj11 a1 t645 true l0_0 l0_1 t639 t642 t654 t657) else ((laws_eqState.f kj11 t654 t657 t639 t642).bind fun t673 => (if t673 = true then (laws_FnExactSayBeat.j1 kj11 a1 t645 (t660 != t645) l0_0 l0_1 t639 t642 t654 t657) else (laws_FnExactSayBeat.j1 kj11 a1 t645 true l0_0 l0_1 t639 t642 t654 t657)))) = some r := H
      have A64 := zm A640
      clear A640
      have HC65 := zm H
      clear H
      try go_wp2
      replace HO_647000 := zm (Kd.R_drew HO_647000.out)
      replace HO_647001 := zm (Kd.R_drew HO_647001.out)
      replace HO_654000 := zm (Kd.R_drew HO_654000.out)
      replace HO_654001 := zm (Kd.R_drew HO_654001.out)
      replace HO_662000 := zm (Kd.R_drew HO_662000.out)
      replace HO_662001 := zm (Kd.R_drew HO_662001.out)
      replace BK631 := zm (blk_drew BK631.out)
      replace BK646 := zm (blk_drew BK646.out)
      replace BK653 := zm (blk_drew BK653.out)
      replace BK661 := zm (blk_drew BK661.out)
      replace HB := zm (below_drew1 HB.out)
      refine start_ (n := 5) (S := fun w' => w'.cell? ⟨gb653, 0, none⟩ = some (.slice Ao29 t647.length co29) ∧ w'.cell? ⟨gb653, 1, none⟩ = some (.slice Ao33 t650.length co33) ∧ w'.cell? ⟨gb631, 0, none⟩ = some (.slice A0_0 l0_0.length c0_0) ∧ w'.cell? ⟨gb631, 1, none⟩ = some (.slice A0_1 l0_1.length c0_1)) (ds := []) (zl 5 0) (by kernel_rfl) rfl rfl ⟨(blk_cell BK653.out 0).trans rfl, (blk_cell BK653.out 1).trans rfl, (blk_cell BK631.out 0).trans rfl, (blk_cell BK631.out 1).trans rfl⟩ (fun hHeld => ?_)
      generalize wc.drew = w66 at HO_647000 HO_647001 HO_654000 HO_654001 HO_662000 HO_662001 BK631 BK646 BK653 BK661 HB hHeld ⊢
      refine zt 0 (some 45) (zl 5 1) ?_
      refine zt 1 (some 46) (zl 5 3) ?_
      refine zo 2 (some 47) (zl 5 7) (fun K hK => ?_)
      refine zgo #[.agg #[.slice A0_0 l0_0.length c0_0, .slice A0_1 l0_1.length c0_1]] Try.func15 ?_
      with_reducible refine (laws_toState.calls kj11 _ _ l0_0 _ _ l0_1 t663 t666 _ (zk (Kd.C_below HR0_0.out HB.out)) HC0_0.out (zk (Kd.C_below HR0_1.out HB.out)) HC0_1.out A61.out).mono ?_
      rintro e w67 ⟨v664, v667, rfl, ho0, ho1, hb⟩
      refine ⟨_, rfl, ?_⟩
      have HO665 := zm (Kd.R_lower (Kd.R_new' (Kd.R_new' (Kd.R_new' ho0 (Kd.R_lt (zr HO_647000))) (Kd.R_lt (zr HO_654000))) (Kd.R_lt (zr HO_662000))) (below_size zB))
      replace HO_647000 := zm (Kd.R_elder' (zr HO_647000) (Kd.R_base ho0) hb)
      replace HO_654000 := zm (Kd.R_elder' (zr HO_654000) (Kd.R_base ho0) hb)
      replace HO_662000 := zm (Kd.R_elder' (zr HO_662000) (Kd.R_base ho0) hb)
      have HO668 := zm (Kd.R_lower (Kd.R_new' (Kd.R_new' (Kd.R_new' ho1 (Kd.R_lt (zr HO_647001))) (Kd.R_lt (zr HO_654001))) (Kd.R_lt (zr HO_662001))) (below_size zB))
      replace HO_647001 := zm (Kd.R_elder' (zr HO_647001) (Kd.R_base ho1) hb)
      replace HO_654001 := zm (Kd.R_elder' (zr HO_654001) (Kd.R_base ho1) hb)
      replace HO_662001 := zm (Kd.R_elder' (zr HO_662001) (Kd.R_base ho1) hb)
      replace BK631 := zm (blk_below (zb BK631) hb)
      replace BK646 := zm (blk_below (zb BK646) hb)
      replace BK653 := zm (blk_below (zb BK653) hb)
      replace BK661 := zm (blk_below (zb BK661) hb)
      replace HB := zm (below_step zB hb)
      (try clear hb)
      (try clear hb2)
      (try clear hk)
      (try clear hi)
      (try clear ho0)
      (try clear ho1)
      obtain ⟨Ao68, co68, eo68⟩ := Kd.R_slice HO665.out
      (first | subst eo68 | (injection eo68 with f1_ f2_ f3_; have f4_ := f1_.symm; have f5_ := f3_.symm; clear f1_ f2_ f3_; subst f4_; subst f5_))
      obtain ⟨Ao69, co69, eo69⟩ := Kd.R_slice HO668.out
      (first | subst eo69 | (injection eo69 with f1_ f2_ f3_; have f4_ := f1_.symm; have f5_ := f3_.symm; clear f1_ f2_ f3_; subst f4_; subst f5_))
      refine hK.out _ _ ⟨(blk_cell BK653.out 0).trans rfl, (blk_cell BK653.out 1).trans rfl, (blk_cell BK631.out 0).trans rfl, (blk_cell BK631.out 1).trans rfl⟩ (fun hHeld => ?_)
      clear hK K
      refine zn ?_
      refine zo 3 (some 48) (zl 5 15) (fun K hK => ?_)
      refine zgo #[.agg #[.slice Ao29 t647.length co29, .slice Ao33 t650.length co33], .agg #[.slice Ao68 t663.length co68, .slice Ao69 t666.length co69]] Try.func18 ?_
      with_reducible refine (laws_eqState.calls kj11 _ _ t647 _ _ t650 _ _ t663 _ _ t666 true _ ?side1 ?side2 ?side3 ?side4 ?side5 ?side6 ?side7 ?side8 A62.out).mono ?_
      (case side1 => repeat (first | exact (Kd.R_reads' HO_654000.out).2.2 | (with_reducible refine Kd.C_alloc ?_ _) | (with_reducible refine Kd.C_drewN ?_ _) | (with_reducible refine Kd.C_drew ?_)))
      (case side2 => exact (Kd.R_reads' HO_654000.out).2.1)
      (case side3 => repeat (first | exact (Kd.R_reads' HO_654001.out).2.2 | (with_reducible refine Kd.C_alloc ?_ _) | (with_reducible refine Kd.C_drewN ?_ _) | (with_reducible refine Kd.C_drew ?_)))
      (case side4 => exact (Kd.R_reads' HO_654001.out).2.1)
      (case side5 => repeat (first | exact (Kd.R_reads' HO665.out).2.2 | (with_reducible refine Kd.C_alloc ?_ _) | (with_reducible refine Kd.C_drewN ?_ _) | (with_reducible refine Kd.C_drew ?_)))
      (case side6 => exact (Kd.R_reads' HO665.out).2.1)
      (case side7 => repeat (first | exact (Kd.R_reads' HO668.out).2.2 | (with_reducible refine Kd.C_alloc ?_ _) | (with_reducible refine Kd.C_drewN ?_ _) | (with_reducible refine Kd.C_drew ?_)))
      (case side8 => exact (Kd.R_reads' HO668.out).2.1)
      rintro e w70 ⟨rfl, hb⟩
      refine ⟨_, rfl, ?_⟩
      replace HO_647000 := zm (Kd.R_below (zr HO_647000) hb)
      replace HO_647001 := zm (Kd.R_below (zr HO_647001) hb)
      replace HO_654000 := zm (Kd.R_below (zr HO_654000) hb)
      replace HO_654001 := zm (Kd.R_below (zr HO_654001) hb)
      replace HO_662000 := zm (Kd.R_below (zr HO_662000) hb)
      replace HO_662001 := zm (Kd.R_below (zr HO_662001) hb)
      replace HO665 := zm (Kd.R_below (zr HO665) hb)
      replace HO668 := zm (Kd.R_below (zr HO668) hb)
      replace BK631 := zm (blk_below (zb BK631) hb)
      replace BK646 := zm (blk_below (zb BK646) hb)
      replace BK653 := zm (blk_below (zb BK653) hb)
      replace BK661 := zm (blk_below (zb BK661) hb)
      replace HB := zm (below_step zB hb)
      (try clear hb)
      (try clear hb2)
      (try clear hk)
      (try clear hi)
      refine hK.out _ _ ⟨(blk_cell BK653.out 0).trans rfl, (blk_cell BK653.out 1).trans rfl, (blk_cell BK631.out 0).trans rfl, (blk_cell BK631.out 1).trans rfl⟩ (fun hHeld => ?_)
      clear hK K
      refine zn ?_
      refine zp 4 (some 49) (zl 5 31) ?_
      refine done_ (by kernel_rfl) ?_
      have hnb71 := NB653_631.out
      have hnc71 := NB631_653.out
      have hnb72 := NB653_646.out
      have hnc72 := NB646_653.out
      have hnb73 := NB653_661.out
      have hnc73 := NB661_653.out
      have hcz74_0 : w70.cell? ⟨gb653, 0, none⟩ = some (.slice Ao29 t647.length co29) := (blk_cell BK653.out 0).trans rfl
      have hcz74_1 : w70.cell? ⟨gb653, 1, none⟩ = some (.slice Ao33 t650.length co33) := (blk_cell BK653.out 1).trans rfl
      have hfz74_0 := blk_frozen BK653.out 0
      have hfz74_1 := blk_frozen BK653.out 1
      go_upto_region 14 with (first | ((with_reducible refine gate_callee (f := 19) rfl ?_); refine zg (some 52) #[.agg #[.slice Ao29 t647.length co29, .slice Ao33 t650.length co33], .int .i64 1] Try.func19 ?_; (with_reducible refine (laws_markState.calls kj11 (fun k_ => some k_ = (.slice Ao29 t647.length co29 : Value).ownBlock) (.slice Ao29 t647.length co29) t647 (fun k_ => some k_ = (.slice Ao33 t650.length co33 : Value).ownBlock) (.slice Ao33 t650.length co33) t650 1 t670 t671 t672 w _ zB ?side2 ?side3 A64.out).mono ?_); (case side2 => exact Kd.R_tight rfl HO_654000.out); (case side3 => exact Kd.R_tight rfl HO_654001.out); rintro e w75 ⟨rfl, hy0, hy1, hb, hkp⟩; refine ⟨_, rfl, ?_⟩; replace HO_647000 := zm (Kd.R_mono (ok' := fun k_ => some k_ ≠ (.slice Ao29 t647.length co29 : Value).ownBlock ∧ some k_ ≠ (.slice Ao36 t654.length co36 : Value).ownBlock ∧ some k_ ≠ (.slice Ao68 t663.length co68 : Value).ownBlock) (Kd.R_keptB ((Kd.R_apart' HO_647000.out (Kd.R_typed HO_654001.out) (by decide))) hkp (fun k_ hk_ hs_ => Or.elim hs_ (fun e_ => (hk_.1.1.1) e_) (fun e_ => (hk_.2) e_))) (fun k_ hk_ => ⟨hk_.1.1.1.1, hk_.1.1.1.2, hk_.1.1.2⟩)); replace HO_647001 := zm (Kd.R_mono (ok' := fun k_ => some k_ ≠ (.slice Ao33 t650.length co33 : Value).ownBlock ∧ some k_ ≠ (.slice Ao41 t657.length co41 : Value).ownBlock ∧ some k_ ≠ (.slice Ao69 t666.length co69 : Value).ownBlock) (Kd.R_keptB ((Kd.R_apart' HO_647001.out (Kd.R_typed HO_654000.out) (by decide))) hkp (fun k_ hk_ hs_ => Or.elim hs_ (fun e_ => (hk_.2) e_) (fun e_ => (hk_.1.1.1) e_))) (fun k_ hk_ => ⟨hk_.1.1.1.1, hk_.1.1.1.2, hk_.1.1.2⟩)); replace HO_662000 := zm (Kd.R_mono (ok' := fun k_ => some k_ ≠ (.slice Ao22 t639.length co22 : Value).ownBlock ∧ some k_ ≠ (.slice Ao29 t647.length co29 : Value).ownBlock ∧ some k_ ≠ (.slice Ao68 t663.length co68 : Value).ownBlock) (Kd.R_keptB ((Kd.R_apart' HO_662000.out (Kd.R_typed HO_654001.out) (by decide))) hkp (fun k_ hk_ hs_ => Or.elim hs_ (fun e_ => (hk_.1.1.2) e_) (fun e_ => (hk_.2) e_))) (fun k_ hk_ => ⟨hk_.1.1.1.1, hk_.1.1.1.2, hk_.1.1.2⟩)); replace HO_662001 := zm (Kd.R_mono (ok' := fun k_ => some k_ ≠ (.slice Ao25 t642.length co25 : Value).ownBlock ∧ some k_ ≠ (.slice Ao33 t650.length co33 : Value).ownBlock ∧ some k_ ≠ (.slice Ao69 t666.length co69 : Value).ownBlock) (Kd.R_keptB ((Kd.R_apart' HO_662001.out (Kd.R_typed HO_654000.out) (by decide))) hkp (fun k_ hk_ hs_ => Or.elim hs_ (fun e_ => (hk_.2) e_) (fun e_ => (hk_.1.1.2) e_))) (fun k_ hk_ => ⟨hk_.1.1.1.1, hk_.1.1.1.2, hk_.1.1.2⟩)); replace BK631 := zm (blk_kept (zb BK631) hkp (fun hs_ => Or.elim hs_ (fun e_ => (fun e_ => (Kd.R_ne HO_654000.out BK631.out (by decide)) e_) e_) (fun e_ => (fun e_ => (Kd.R_ne HO_654001.out BK631.out (by decide)) e_) e_))); replace BK646 := zm (blk_kept (zb BK646) hkp (fun hs_ => Or.elim hs_ (fun e_ => (fun e_ => (Kd.R_ne HO_654000.out BK646.out (by decide)) e_) e_) (fun e_ => (fun e_ => (Kd.R_ne HO_654001.out BK646.out (by decide)) e_) e_))); replace BK653 := zm (blk_kept (zb BK653) hkp (fun hs_ => Or.elim hs_ (fun e_ => (fun e_ => (Kd.R_ne HO_654000.out BK653.out (by decide)) e_) e_) (fun e_ => (fun e_ => (Kd.R_ne HO_654001.out BK653.out (by decide)) e_) e_))); replace BK661 := zm (blk_kept (zb BK661) hkp (fun hs_ => Or.elim hs_ (fun e_ => (fun e_ => (Kd.R_ne HO_654000.out BK661.out (by decide)) e_) e_) (fun e_ => (fun e_ => (Kd.R_ne HO_654001.out BK661.out (by decide)) e_) e_))); replace HO665 := zm (Kd.R_mono (ok' := fun k_ => some k_ ≠ (.slice Ao22 t639.length co22 : Value).ownBlock ∧ some k_ ≠ (.slice Ao29 t647.length co29 : Value).ownBlock ∧ some k_ ≠ (.slice Ao36 t654.length co36 : Value).ownBlock) (Kd.R_keptB ((Kd.R_apart' HO665.out (Kd.R_typed HO_654001.out) (by decide))) hkp (fun k_ hk_ hs_ => Or.elim hs_ (fun e_ => (hk_.1.1.2) e_) (fun e_ => (hk_.2) e_))) (fun k_ hk_ => ⟨hk_.1.1.1.1.2, hk_.1.1.1.2, hk_.1.1.2⟩)); replace HO_654001 := zm (Kd.R_reok rfl hy1 (fun k_ e_ => HO_654001.out.1 k_ e_)); replace HO668 := zm (Kd.R_mono (ok' := fun k_ => some k_ ≠ (.slice Ao25 t642.length co25 : Value).ownBlock ∧ some k_ ≠ (.slice Ao33 t650.length co33 : Value).ownBlock ∧ some k_ ≠ (.slice Ao41 t657.length co41 : Value).ownBlock) (Kd.R_keptB ((Kd.R_apart' HO668.out (Kd.R_typed HO_654000.out) (by decide))) hkp (fun k_ hk_ hs_ => Or.elim hs_ (fun e_ => (hk_.2) e_) (fun e_ => (hk_.1.1.2) e_))) (fun k_ hk_ => ⟨hk_.1.1.1.1.2, hk_.1.1.1.2, hk_.1.1.2⟩)); replace HO_654000 := zm (Kd.R_reok rfl hy0 (fun k_ e_ => HO_654000.out.1 k_ e_)); replace HB := zm (hb); clear hb hkp hy0; (try clear hy1)))
      (try simp only [Act.put, List.setIfInBounds_toArray, List.set_cons_zero, List.set_cons_succ])
      go_cut [65] (fun v65 wc => ∃ (kq : Nat) (x65_64 : Bool), v65 = .bool x65_64 ∧ Aside0 (laws_FnExactSayBeat.j1 kq a1 t645 x65_64 l0_0 l0_1 t639 t642 t654 t657 = some r) ∧ Aside0 (kq ≤ kj11) ∧ Aside0 (Kd.R k68 68 wc w.heap.size (fun k_ => some k_ ≠ ((.slice Ao29 t647.length co29) : Value).ownBlock ∧ some k_ ≠ ((.slice Ao36 t654.length co36) : Value).ownBlock) (.slice Ao22 t639.length co22) t639) ∧ Aside0 (Kd.R k72 72 wc w.heap.size (fun k_ => some k_ ≠ ((.slice Ao33 t650.length co33) : Value).ownBlock ∧ some k_ ≠ ((.slice Ao41 t657.length co41) : Value).ownBlock) (.slice Ao25 t642.length co25) t642) ∧ Aside0 (Kd.R k68 68 wc w.heap.size (fun k_ => some k_ ≠ ((.slice Ao22 t639.length co22) : Value).ownBlock ∧ some k_ ≠ ((.slice Ao36 t654.length co36) : Value).ownBlock) (.slice Ao29 t647.length co29) t671) ∧ Aside0 (Kd.R k72 72 wc w.heap.size (fun k_ => some k_ ≠ ((.slice Ao25 t642.length co25) : Value).ownBlock ∧ some k_ ≠ ((.slice Ao41 t657.length co41) : Value).ownBlock) (.slice Ao33 t650.length co33) t672) ∧ Aside0 (Kd.R k68 68 wc w.heap.size (fun k_ => some k_ ≠ ((.slice Ao22 t639.length co22) : Value).ownBlock ∧ some k_ ≠ ((.slice Ao29 t647.length co29) : Value).ownBlock) (.slice Ao36 t654.length co36) t654) ∧ Aside0 (Kd.R k72 72 wc w.heap.size (fun k_ => some k_ ≠ ((.slice Ao25 t642.length co25) : Value).ownBlock ∧ some k_ ≠ ((.slice Ao33 t650.length co33) : Value).ownBlock) (.slice Ao41 t657.length co41) t657) ∧ Aside0 (wc.heap[gb631]? = some (.cells #[(.slice A0_0 l0_0.length c0_0), (.slice A0_1 l0_1.length c0_1)] 25 (0, 0))) ∧ Aside0 (wc.heap[gb646]? = some (.cells #[(.slice Ao22 t639.length co22), (.slice Ao25 t642.length co25)] 32 (0, 0))) ∧ Aside0 (wc.heap[gb653]? = some (.cells #[(.slice Ao29 t647.length co29), (.slice Ao33 t650.length co33)] 32 (0, 0))) ∧ Aside0 (wc.heap[gb661]? = some (.cells #[(.slice Ao36 t654.length co36), (.slice Ao41 t657.length co41)] 32 (0, 0))) ∧ Aside0 (Below w.heap.size w wc))
      case first =>
       have H := HC65.out
       clear HC65
       by_cases c76 : t670 < 0
       ·rw [if_pos c76] at H
        have c76b0 : decide (t670 < 0) = true := decide_eq_true c76
        clear c76
        (first | rw [c76b0] | (simp only [i64_w, i32_w]; rw [c76b0]) | skip)
        have H' := zm H
        clear H
        go_wp2
        go_meet
        case rel => exact ⟨_, (true), zF, H', ⟨by have := HJ11.out; first | omega | exact Nat.le_refl _⟩, ⟨by (with_reducible repeat (first | apply Kd.R_alloc | apply Kd.R_drewN | apply Kd.R_drew)); exact Kd.R_mono HO_647000.out (fun _ hk => ⟨hk.1, hk.2.1⟩)⟩, ⟨by (with_reducible repeat (first | apply Kd.R_alloc | apply Kd.R_drewN | apply Kd.R_drew)); exact Kd.R_mono HO_647001.out (fun _ hk => ⟨hk.1, hk.2.1⟩)⟩, ⟨by (with_reducible repeat (first | apply Kd.R_alloc | apply Kd.R_drewN | apply Kd.R_drew)); exact Kd.R_mono HO_654000.out (fun _ hk => ⟨hk.1.1, hk.1.2⟩)⟩, ⟨by (with_reducible repeat (first | apply Kd.R_alloc | apply Kd.R_drewN | apply Kd.R_drew)); exact Kd.R_mono HO_654001.out (fun _ hk => ⟨hk.1.1, hk.1.2⟩)⟩, ⟨by (with_reducible repeat (first | apply Kd.R_alloc | apply Kd.R_drewN | apply Kd.R_drew)); exact Kd.R_mono HO_662000.out (fun _ hk => ⟨hk.1, hk.2.1⟩)⟩, ⟨by (with_reducible repeat (first | apply Kd.R_alloc | apply Kd.R_drewN | apply Kd.R_drew)); exact Kd.R_mono HO_662001.out (fun _ hk => ⟨hk.1, hk.2.1⟩)⟩, ⟨zb BK631⟩, ⟨zb BK646⟩, ⟨zb BK653⟩, ⟨zb BK661⟩, ⟨zB⟩⟩
       ·rw [if_neg c76] at H
        have c76b0 : decide (t670 < 0) = false := decide_eq_false c76
        clear c76
        (first | rw [c76b0] | (simp only [i64_w, i32_w]; rw [c76b0]) | skip)
        replace H := Option.bind_eq_some_iff.mp H
        obtain ⟨t673, A770, H⟩ := H
        replace H : (if t673 = true then (laws_FnExactSayBeat.j1 kj11 a1 t645 (t660 != t645) l0_0 l0_1 t639 t642 t654 t657) else (laws_FnExactSayBeat.j1 kj11 a1 t645 true l0_0 l0_1 t639 t642 t654 t657)) = some r := H
        have A77 := zm A770
        clear A770
        by_cases c78 : t673 = true
        ·subst c78
         have H1 : (laws_FnExactSayBeat.j1 kj11 a1 t645 (t660 != t645) l0_0 l0_1 t639 t642 t654 t657) = some r := by rw [if_pos rfl] at H; exact H
         clear H
         have H := H1
         clear H1
         have H' := zm H
         clear H
         have hnb79 := NB661_631.out
         have hnc79 := NB631_661.out
         have hnb80 := NB661_646.out
         have hnc80 := NB646_661.out
         have hnb81 := NB661_653.out
         have hnc81 := NB653_661.out
         have hcz82_0 : w75.cell? ⟨gb661, 0, none⟩ = some (.slice Ao36 t654.length co36) := (blk_cell BK661.out 0).trans rfl
         have hcz82_1 : w75.cell? ⟨gb661, 1, none⟩ = some (.slice Ao41 t657.length co41) := (blk_cell BK661.out 1).trans rfl
         have hfz82_0 := blk_frozen BK661.out 0
         have hfz82_1 := blk_frozen BK661.out 1
         have hnb83 := NB646_631.out
         have hnc83 := NB631_646.out
         have hnb84 := NB646_653.out
         have hnc84 := NB653_646.out
         have hcz85_0 : w75.cell? ⟨gb646, 0, none⟩ = some (.slice Ao22 t639.length co22) := (blk_cell BK646.out 0).trans rfl
         have hcz85_1 : w75.cell? ⟨gb646, 1, none⟩ = some (.slice Ao25 t642.length co25) := (blk_cell BK646.out 1).trans rfl
         have hfz85_0 := blk_frozen BK646.out 0
         have hfz85_1 := blk_frozen BK646.out 1
         go_wp2_with (first | (go_at_call 18; (with_reducible refine (laws_eqState.calls kj11 _ _ t654 _ _ t657 _ _ t639 _ _ t642 true _ ?side1 ?side2 ?side3 ?side4 ?side5 ?side6 ?side7 ?side8 A77.out).mono ?_); (case side1 => repeat (first | exact (Kd.R_reads' HO_662000.out).2.2 | (with_reducible refine Kd.C_alloc ?_ _) | (with_reducible refine Kd.C_drewN ?_ _) | (with_reducible refine Kd.C_drew ?_))); (case side2 => exact (Kd.R_reads' HO_662000.out).2.1); (case side3 => repeat (first | exact (Kd.R_reads' HO_662001.out).2.2 | (with_reducible refine Kd.C_alloc ?_ _) | (with_reducible refine Kd.C_drewN ?_ _) | (with_reducible refine Kd.C_drew ?_))); (case side4 => exact (Kd.R_reads' HO_662001.out).2.1); (case side5 => repeat (first | exact (Kd.R_reads' HO_647000.out).2.2 | (with_reducible refine Kd.C_alloc ?_ _) | (with_reducible refine Kd.C_drewN ?_ _) | (with_reducible refine Kd.C_drew ?_))); (case side6 => exact (Kd.R_reads' HO_647000.out).2.1); (case side7 => repeat (first | exact (Kd.R_reads' HO_647001.out).2.2 | (with_reducible refine Kd.C_alloc ?_ _) | (with_reducible refine Kd.C_drewN ?_ _) | (with_reducible refine Kd.C_drew ?_))); (case side8 => exact (Kd.R_reads' HO_647001.out).2.1); rintro e w86 ⟨rfl, hb⟩; replace HO_647000 := zm (Kd.R_below (zr HO_647000) hb); replace HO_647001 := zm (Kd.R_below (zr HO_647001) hb); replace HO_654000 := zm (Kd.R_below (zr HO_654000) hb); replace HO_654001 := zm (Kd.R_below (zr HO_654001) hb); replace HO_662000 := zm (Kd.R_below (zr HO_662000) hb); replace HO_662001 := zm (Kd.R_below (zr HO_662001) hb); replace HO665 := zm (Kd.R_below (zr HO665) hb); replace HO668 := zm (Kd.R_below (zr HO668) hb); replace BK631 := zm (blk_below (zb BK631) hb); replace BK646 := zm (blk_below (zb BK646) hb); replace BK653 := zm (blk_below (zb BK653) hb); replace BK661 := zm (blk_below (zb BK661) hb); replace HB := zm (below_step zB hb); clear hb))
         go_meet
         case rel => exact ⟨_, ((t660 != t645)), zF, H', ⟨by have := HJ11.out; first | omega | exact Nat.le_refl _⟩, ⟨by (with_reducible repeat (first | apply Kd.R_alloc | apply Kd.R_drewN | apply Kd.R_drew)); exact Kd.R_mono HO_647000.out (fun _ hk => ⟨hk.1, hk.2.1⟩)⟩, ⟨by (with_reducible repeat (first | apply Kd.R_alloc | apply Kd.R_drewN | apply Kd.R_drew)); exact Kd.R_mono HO_647001.out (fun _ hk => ⟨hk.1, hk.2.1⟩)⟩, ⟨by (with_reducible repeat (first | apply Kd.R_alloc | apply Kd.R_drewN | apply Kd.R_drew)); exact Kd.R_mono HO_654000.out (fun _ hk => ⟨hk.1.1, hk.1.2⟩)⟩, ⟨by (with_reducible repeat (first | apply Kd.R_alloc | apply Kd.R_drewN | apply Kd.R_drew)); exact Kd.R_mono HO_654001.out (fun _ hk => ⟨hk.1.1, hk.1.2⟩)⟩, ⟨by (with_reducible repeat (first | apply Kd.R_alloc | apply Kd.R_drewN | apply Kd.R_drew)); exact Kd.R_mono HO_662000.out (fun _ hk => ⟨hk.1, hk.2.1⟩)⟩, ⟨by (with_reducible repeat (first | apply Kd.R_alloc | apply Kd.R_drewN | apply Kd.R_drew)); exact Kd.R_mono HO_662001.out (fun _ hk => ⟨hk.1, hk.2.1⟩)⟩, ⟨zb BK631⟩, ⟨zb BK646⟩, ⟨zb BK653⟩, ⟨zb BK661⟩, ⟨zB⟩⟩
        ·replace c78 := Bool.eq_false_iff.mpr c78
         subst c78
         have H1 : (laws_FnExactSayBeat.j1 kj11 a1 t645 true l0_0 l0_1 t639 t642 t654 t657) = some r := by rw [if_neg (show ¬ (false = true) by decide)] at H; exact H
         clear H
         have H := H1
         clear H1
         have H' := zm H
         clear H
         have hnb87 := NB661_631.out
         have hnc87 := NB631_661.out
         have hnb88 := NB661_646.out
         have hnc88 := NB646_661.out
         have hnb89 := NB661_653.out
         have hnc89 := NB653_661.out
         have hcz90_0 : w75.cell? ⟨gb661, 0, none⟩ = some (.slice Ao36 t654.length co36) := (blk_cell BK661.out 0).trans rfl
         have hcz90_1 : w75.cell? ⟨gb661, 1, none⟩ = some (.slice Ao41 t657.length co41) := (blk_cell BK661.out 1).trans rfl
         have hfz90_0 := blk_frozen BK661.out 0
         have hfz90_1 := blk_frozen BK661.out 1
         have hnb91 := NB646_631.out
         have hnc91 := NB631_646.out
         have hnb92 := NB646_653.out
         have hnc92 := NB653_646.out
         have hcz93_0 : w75.cell? ⟨gb646, 0, none⟩ = some (.slice Ao22 t639.length co22) := (blk_cell BK646.out 0).trans rfl
         have hcz93_1 : w75.cell? ⟨gb646, 1, none⟩ = some (.slice Ao25 t642.length co25) := (blk_cell BK646.out 1).trans rfl
         have hfz93_0 := blk_frozen BK646.out 0
         have hfz93_1 := blk_frozen BK646.out 1
         go_wp2_with (first | (go_at_call 18; (with_reducible refine (laws_eqState.calls kj11 _ _ t654 _ _ t657 _ _ t639 _ _ t642 false _ ?side1 ?side2 ?side3 ?side4 ?side5 ?side6 ?side7 ?side8 A77.out).mono ?_); (case side1 => repeat (first | exact (Kd.R_reads' HO_662000.out).2.2 | (with_reducible refine Kd.C_alloc ?_ _) | (with_reducible refine Kd.C_drewN ?_ _) | (with_reducible refine Kd.C_drew ?_))); (case side2 => exact (Kd.R_reads' HO_662000.out).2.1); (case side3 => repeat (first | exact (Kd.R_reads' HO_662001.out).2.2 | (with_reducible refine Kd.C_alloc ?_ _) | (with_reducible refine Kd.C_drewN ?_ _) | (with_reducible refine Kd.C_drew ?_))); (case side4 => exact (Kd.R_reads' HO_662001.out).2.1); (case side5 => repeat (first | exact (Kd.R_reads' HO_647000.out).2.2 | (with_reducible refine Kd.C_alloc ?_ _) | (with_reducible refine Kd.C_drewN ?_ _) | (with_reducible refine Kd.C_drew ?_))); (case side6 => exact (Kd.R_reads' HO_647000.out).2.1); (case side7 => repeat (first | exact (Kd.R_reads' HO_647001.out).2.2 | (with_reducible refine Kd.C_alloc ?_ _) | (with_reducible refine Kd.C_drewN ?_ _) | (with_reducible refine Kd.C_drew ?_))); (case side8 => exact (Kd.R_reads' HO_647001.out).2.1); rintro e w94 ⟨rfl, hb⟩; replace HO_647000 := zm (Kd.R_below (zr HO_647000) hb); replace HO_647001 := zm (Kd.R_below (zr HO_647001) hb); replace HO_654000 := zm (Kd.R_below (zr HO_654000) hb); replace HO_654001 := zm (Kd.R_below (zr HO_654001) hb); replace HO_662000 := zm (Kd.R_below (zr HO_662000) hb); replace HO_662001 := zm (Kd.R_below (zr HO_662001) hb); replace HO665 := zm (Kd.R_below (zr HO665) hb); replace HO668 := zm (Kd.R_below (zr HO668) hb); replace BK631 := zm (blk_below (zb BK631) hb); replace BK646 := zm (blk_below (zb BK646) hb); replace BK653 := zm (blk_below (zb BK653) hb); replace BK661 := zm (blk_below (zb BK661) hb); replace HB := zm (below_step zB hb); clear hb))
         go_meet
         case rel => exact ⟨_, (true), zF, H', ⟨by have := HJ11.out; first | omega | exact Nat.le_refl _⟩, ⟨by (with_reducible repeat (first | apply Kd.R_alloc | apply Kd.R_drewN | apply Kd.R_drew)); exact Kd.R_mono HO_647000.out (fun _ hk => ⟨hk.1, hk.2.1⟩)⟩, ⟨by (with_reducible repeat (first | apply Kd.R_alloc | apply Kd.R_drewN | apply Kd.R_drew)); exact Kd.R_mono HO_647001.out (fun _ hk => ⟨hk.1, hk.2.1⟩)⟩, ⟨by (with_reducible repeat (first | apply Kd.R_alloc | apply Kd.R_drewN | apply Kd.R_drew)); exact Kd.R_mono HO_654000.out (fun _ hk => ⟨hk.1.1, hk.1.2⟩)⟩, ⟨by (with_reducible repeat (first | apply Kd.R_alloc | apply Kd.R_drewN | apply Kd.R_drew)); exact Kd.R_mono HO_654001.out (fun _ hk => ⟨hk.1.1, hk.1.2⟩)⟩, ⟨by (with_reducible repeat (first | apply Kd.R_alloc | apply Kd.R_drewN | apply Kd.R_drew)); exact Kd.R_mono HO_662000.out (fun _ hk => ⟨hk.1, hk.2.1⟩)⟩, ⟨by (with_reducible repeat (first | apply Kd.R_alloc | apply Kd.R_drewN | apply Kd.R_drew)); exact Kd.R_mono HO_662001.out (fun _ hk => ⟨hk.1, hk.2.1⟩)⟩, ⟨zb BK631⟩, ⟨zb BK646⟩, ⟨zb BK653⟩, ⟨zb BK661⟩, ⟨zB⟩⟩
      case rest =>
       clear HC65
       try clear c1
       try clear c2
       try clear p2
       try clear c3
       try clear c4
       try clear c4b0
       try clear c5
       try clear c6
       try clear c7
       try clear c8
       try clear c9
       try clear c13
       try clear c15
       try clear c18
       try clear c19
       try clear c23
       try clear c27
       try clear c28
       try clear c30
       try clear c31
       try clear c37
       try clear c38
       try clear c39
       try clear c43
       try clear c44
       try clear c45
       try clear c46
       try clear c48
       try clear c49
       try clear c52
       try clear c53
       try clear c54
       try clear c56
       try clear c57
       try clear c60
       try clear c63
       try clear c71
       try clear c72
       try clear c73
       try clear c76
       try clear c76b0
       try clear c78
       try clear c79
       try clear c80
       try clear c81
       try clear c83
       try clear c84
       try clear c87
       try clear c88
       try clear c89
       try clear c91
       try clear c92
       try clear hcz14_0
       try clear hcz14_1
       try clear hcz16_0
       try clear hcz16_1
       try clear hcz24_0
       try clear hcz24_1
       try clear hcz26_0
       try clear hcz26_1
       try clear hcz32_0
       try clear hcz32_1
       try clear hcz40_0
       try clear hcz40_1
       try clear hcz47_0
       try clear hcz47_1
       try clear hcz50_0
       try clear hcz50_1
       try clear hcz55_0
       try clear hcz55_1
       try clear hcz58_0
       try clear hcz58_1
       try clear hcz6_0
       try clear hcz6_1
       try clear hcz74_0
       try clear hcz74_1
       try clear hcz82_0
       try clear hcz82_1
       try clear hcz85_0
       try clear hcz85_1
       try clear hcz90_0
       try clear hcz90_1
       try clear hcz93_0
       try clear hcz93_1
       try clear hfz14_0
       try clear hfz14_1
       try clear hfz16_0
       try clear hfz16_1
       try clear hfz24_0
       try clear hfz24_1
       try clear hfz26_0
       try clear hfz26_1
       try clear hfz32_0
       try clear hfz32_1
       try clear hfz40_0
       try clear hfz40_1
       try clear hfz47_0
       try clear hfz47_1
       try clear hfz50_0
       try clear hfz50_1
       try clear hfz55_0
       try clear hfz55_1
       try clear hfz58_0
       try clear hfz58_1
       try clear hfz6_0
       try clear hfz6_1
       try clear hfz74_0
       try clear hfz74_1
       try clear hfz82_0
       try clear hfz82_1
       try clear hfz85_0
       try clear hfz85_1
       try clear hfz90_0
       try clear hfz90_1
       try clear hfz93_0
       try clear hfz93_1
       try clear p2
       obtain ⟨kq, x65_64, rfl, HA, HJ64, HO_647000, HO_647001, HO_654000, HO_654001, HO_662000, HO_662001, BK631, BK646, BK653, BK661, HB⟩ := hcut
       have hl654000_64 := (Kd.R_reads' HO_654000.out).1
       rw [hl654000_64] at HO_654000
       (try simp only [hl654000_64])
       (try simp only [hl654000_64] at BK631)
       (try simp only [hl654000_64] at BK646)
       (try simp only [hl654000_64] at BK653)
       (try simp only [hl654000_64] at BK661)
       (try simp only [hl654000_64] at HO_647000)
       (try simp only [hl654000_64] at HO_647001)
       (try simp only [hl654000_64] at HO_654001)
       (try simp only [hl654000_64] at HO_662000)
       (try simp only [hl654000_64] at HO_662001)
       have hl654001_64 := (Kd.R_reads' HO_654001.out).1
       rw [hl654001_64] at HO_654001
       (try simp only [hl654001_64])
       (try simp only [hl654001_64] at BK631)
       (try simp only [hl654001_64] at BK646)
       (try simp only [hl654001_64] at BK653)
       (try simp only [hl654001_64] at BK661)
       (try simp only [hl654001_64] at HO_647000)
       (try simp only [hl654001_64] at HO_647001)
       (try simp only [hl654001_64] at HO_654000)
       (try simp only [hl654001_64] at HO_662000)
       (try simp only [hl654001_64] at HO_662001)
       cases kq with
       | zero => exact absurd HA.out (by simp [laws_FnExactSayBeat.j1])
       | succ kj64 =>
        have H := HA.out
        clear HA
        simp only [laws_FnExactSayBeat.j1] at H
        by_cases c95 : x65_64 = true
        ·subst c95
         have H1 : (some false) = some r := by rw [if_pos rfl] at H; exact H
         clear H
         have H := H1
         clear H1
         obtain rfl := Option.some.inj H
         go_wp2
         go_ret
         exact ⟨zE, zB⟩
        ·replace c95 := Bool.eq_false_iff.mpr c95
         subst c95
         have H1 : ((laws_markState.f kj64 t654 t657 1).bind fun bt674 => ((laws_heldState.f kj64 bt674.2.1 bt674.2.2 1).bind fun t677 => (if t677 < 0 then (some false) else (if t677 = bt674.1 then ((laws_toState.f kj64 l0_0 l0_1).bind fun bt678 => ((impl_SayBeat.f kj64 bt678.1 bt678.2 a1).bind fun bt684 => ((laws_eqState.f kj64 bt684.1 bt684.2.1 t639 t642).bind fun t692 => (if t692 = true then (laws_FnExactSayBeat.j2 kj64 bt674.1 (bt684.2.2 != t645) bt674.2.1 bt674.2.2) else (laws_FnExactSayBeat.j2 kj64 bt674.1 true bt674.2.1 bt674.2.2))))) else (some false))))) = some r := by rw [if_neg (show ¬ (false = true) by decide)] at H; exact H
         clear H
         have H := H1
         clear H1
         replace H := Option.bind_eq_some_iff.mp H
         obtain ⟨⟨t674, t675, t676⟩, A960, H⟩ := H
         replace H : ((laws_heldState.f kj64 t675 t676 1).bind fun t677 => (if t677 < 0 then (some false) else (if t677 = t674 then ((laws_toState.f kj64 l0_0 l0_1).bind fun bt678 => ((impl_SayBeat.f kj64 bt678.1 bt678.2 a1).bind fun bt684 => ((laws_eqState.f kj64 bt684.1 bt684.2.1 t639 t642).bind fun t692 => (if t692 = true then (laws_FnExactSayBeat.j2 kj64 t674 (bt684.2.2 != t645) t675 t676) else (laws_FnExactSayBeat.j2 kj64 t674 true t675 t676))))) else (some false)))) = some r := H
         have A96 := zm A960
         clear A960
         replace H := Option.bind_eq_some_iff.mp H
         obtain ⟨t677, A970, H⟩ := H
         replace H : (if t677 < 0 then (some false) else (if t677 = t674 then ((laws_toState.f kj64 l0_0 l0_1).bind fun bt678 => ((impl_SayBeat.f kj64 bt678.1 bt678.2 a1).bind fun bt684 => ((laws_eqState.f kj64 bt684.1 bt684.2.1 t639 t642).bind fun t692 => (if t692 = true then (laws_FnExactSayBeat.j2 kj64 t674 (bt684.2.2 != t645) t675 t676) else (laws_FnExactSayBeat.j2 kj64 t674 true t675 t676))))) else (some false))) = some r := H
         have A97 := zm A970
         clear A970
         by_cases c98 : t677 < 0
         ·rw [if_pos c98] at H
          have c98b0 : decide (t677 < 0) = true := decide_eq_true c98
          clear c98
          obtain rfl := Option.some.inj H
          have hnb99 := NB661_631.out
          have hnc99 := NB631_661.out
          have hnb100 := NB661_646.out
          have hnc100 := NB646_661.out
          have hnb101 := NB661_653.out
          have hnc101 := NB653_661.out
          have hcz102_0 : wc.cell? ⟨gb661, 0, none⟩ = some (.slice Ao36 t654.length co36) := (blk_cell BK661.out 0).trans rfl
          have hcz102_1 : wc.cell? ⟨gb661, 1, none⟩ = some (.slice Ao41 t657.length co41) := (blk_cell BK661.out 1).trans rfl
          have hfz102_0 := blk_frozen BK661.out 0
          have hfz102_1 := blk_frozen BK661.out 1
          go_wp2_with (first | ((with_reducible refine gate_callee (f := 19) rfl ?_); refine zg (some 68) #[.agg #[.slice Ao36 t654.length co36, .slice Ao41 t657.length co41], .int .i64 1] Try.func19 ?_; (with_reducible refine (laws_markState.calls kj64 (fun k_ => some k_ = (.slice Ao36 t654.length co36 : Value).ownBlock) (.slice Ao36 t654.length co36) t654 (fun k_ => some k_ = (.slice Ao41 t657.length co41 : Value).ownBlock) (.slice Ao41 t657.length co41) t657 1 t674 t675 t676 w _ zB ?side2 ?side3 A96.out).mono ?_); (case side2 => exact Kd.R_tight rfl HO_662000.out); (case side3 => exact Kd.R_tight rfl HO_662001.out); rintro e w103 ⟨rfl, hy0, hy1, hb, hkp⟩; refine ⟨_, rfl, ?_⟩; replace HO_647000 := zm (Kd.R_mono (ok' := fun k_ => some k_ ≠ (.slice Ao29 t671.length co29 : Value).ownBlock ∧ some k_ ≠ (.slice Ao36 t654.length co36 : Value).ownBlock) (Kd.R_keptB ((Kd.R_apart' HO_647000.out (Kd.R_typed HO_662001.out) (by decide))) hkp (fun k_ hk_ hs_ => Or.elim hs_ (fun e_ => (hk_.1.2) e_) (fun e_ => (hk_.2) e_))) (fun k_ hk_ => ⟨hk_.1.1.1, hk_.1.1.2⟩)); replace HO_647001 := zm (Kd.R_mono (ok' := fun k_ => some k_ ≠ (.slice Ao33 t672.length co33 : Value).ownBlock ∧ some k_ ≠ (.slice Ao41 t657.length co41 : Value).ownBlock) (Kd.R_keptB ((Kd.R_apart' HO_647001.out (Kd.R_typed HO_662000.out) (by decide))) hkp (fun k_ hk_ hs_ => Or.elim hs_ (fun e_ => (hk_.2) e_) (fun e_ => (hk_.1.2) e_))) (fun k_ hk_ => ⟨hk_.1.1.1, hk_.1.1.2⟩)); replace HO_654000 := zm (Kd.R_mono (ok' := fun k_ => some k_ ≠ (.slice Ao22 t639.length co22 : Value).ownBlock ∧ some k_ ≠ (.slice Ao36 t654.length co36 : Value).ownBlock) (Kd.R_keptB ((Kd.R_apart' HO_654000.out (Kd.R_typed HO_662001.out) (by decide))) hkp (fun k_ hk_ hs_ => Or.elim hs_ (fun e_ => (hk_.1.2) e_) (fun e_ => (hk_.2) e_))) (fun k_ hk_ => ⟨hk_.1.1.1, hk_.1.1.2⟩)); replace HO_654001 := zm (Kd.R_mono (ok' := fun k_ => some k_ ≠ (.slice Ao25 t642.length co25 : Value).ownBlock ∧ some k_ ≠ (.slice Ao41 t657.length co41 : Value).ownBlock) (Kd.R_keptB ((Kd.R_apart' HO_654001.out (Kd.R_typed HO_662000.out) (by decide))) hkp (fun k_ hk_ hs_ => Or.elim hs_ (fun e_ => (hk_.2) e_) (fun e_ => (hk_.1.2) e_))) (fun k_ hk_ => ⟨hk_.1.1.1, hk_.1.1.2⟩)); replace BK631 := zm (blk_kept (zb BK631) hkp (fun hs_ => Or.elim hs_ (fun e_ => (fun e_ => (Kd.R_ne HO_662000.out BK631.out (by decide)) e_) e_) (fun e_ => (fun e_ => (Kd.R_ne HO_662001.out BK631.out (by decide)) e_) e_))); replace BK646 := zm (blk_kept (zb BK646) hkp (fun hs_ => Or.elim hs_ (fun e_ => (fun e_ => (Kd.R_ne HO_662000.out BK646.out (by decide)) e_) e_) (fun e_ => (fun e_ => (Kd.R_ne HO_662001.out BK646.out (by decide)) e_) e_))); replace BK653 := zm (blk_kept (zb BK653) hkp (fun hs_ => Or.elim hs_ (fun e_ => (fun e_ => (Kd.R_ne HO_662000.out BK653.out (by decide)) e_) e_) (fun e_ => (fun e_ => (Kd.R_ne HO_662001.out BK653.out (by decide)) e_) e_))); replace BK661 := zm (blk_kept (zb BK661) hkp (fun hs_ => Or.elim hs_ (fun e_ => (fun e_ => (Kd.R_ne HO_662000.out BK661.out (by decide)) e_) e_) (fun e_ => (fun e_ => (Kd.R_ne HO_662001.out BK661.out (by decide)) e_) e_))); replace HO_662000 := zm (Kd.R_reok rfl hy0 (fun k_ e_ => HO_662000.out.1 k_ e_)); replace HO_662001 := zm (Kd.R_reok rfl hy1 (fun k_ e_ => HO_662001.out.1 k_ e_)); replace HB := zm (hb); clear hb hkp hy0; (try clear hy1); have hcz104_0 : w103.cell? ⟨gb661, 0, none⟩ = some (.slice Ao36 t654.length co36) := (blk_cell BK661.out 0).trans rfl; have hcz104_1 : w103.cell? ⟨gb661, 1, none⟩ = some (.slice Ao41 t657.length co41) := (blk_cell BK661.out 1).trans rfl; have hfz104_0 := blk_frozen BK661.out 0; have hfz104_1 := blk_frozen BK661.out 1) | ((with_reducible refine gate_callee (f := 26) rfl ?_); refine goesL_ (some 71) rfl rfl Try.func26 (by kernel_rfl) rfl #[.agg #[.slice Ao36 t675.length co36, .slice Ao41 t676.length co41], .int .i64 1] rfl (by (try simp only [List.map_toArray, List.map_cons, List.map_nil]); first | done | (rw [show t675.length = t654.length from (Kd.R_reads' HO_662000.out).1.symm, show t676.length = t657.length from (Kd.R_reads' HO_662001.out).1.symm] <;> rfl) | rfl | (simp only [List.length_drop, List.length_take]; rfl)) ?_; (with_reducible refine (laws_heldState.calls kj64 _ _ t675 _ _ t676 1 t677 _ ?side1 ?side2 ?side3 ?side4 A97.out).mono ?_); (case side1 => repeat (first | exact (Kd.R_reads' HO_662000.out).2.2 | (with_reducible refine Kd.C_alloc ?_ _) | (with_reducible refine Kd.C_drewN ?_ _) | (with_reducible refine Kd.C_drew ?_))); (case side2 => rw [show t675.length = t654.length from (Kd.R_reads' HO_662000.out).1.symm]; exact (Kd.R_reads' HO_662000.out).2.1); (case side3 => repeat (first | exact (Kd.R_reads' HO_662001.out).2.2 | (with_reducible refine Kd.C_alloc ?_ _) | (with_reducible refine Kd.C_drewN ?_ _) | (with_reducible refine Kd.C_drew ?_))); (case side4 => rw [show t676.length = t657.length from (Kd.R_reads' HO_662001.out).1.symm]; exact (Kd.R_reads' HO_662001.out).2.1); rintro e w105 ⟨rfl, hb⟩; refine ⟨_, rfl, ?_⟩; replace HO_647000 := zm (Kd.R_below (zr HO_647000) hb); replace HO_647001 := zm (Kd.R_below (zr HO_647001) hb); replace HO_654000 := zm (Kd.R_below (zr HO_654000) hb); replace HO_654001 := zm (Kd.R_below (zr HO_654001) hb); replace HO_662000 := zm (Kd.R_below (zr HO_662000) hb); replace HO_662001 := zm (Kd.R_below (zr HO_662001) hb); replace BK631 := zm (blk_below (zb BK631) hb); replace BK646 := zm (blk_below (zb BK646) hb); replace BK653 := zm (blk_below (zb BK653) hb); replace BK661 := zm (blk_below (zb BK661) hb); replace HB := zm (below_step zB hb); clear hb))
          go_ret
          exact ⟨zE, zB⟩
         ·rw [if_neg c98] at H
          have c98b0 : decide (t677 < 0) = false := decide_eq_false c98
          clear c98
          by_cases c106 : t677 = t674
          ·rw [if_pos c106] at H
           have c106b0 : (t677 == t674) = true := beq_iff_eq.mpr c106
           have c106b1 : (t677 != t674) = false := bne_eq_false_iff_eq.mpr c106
           clear c106
           replace H := Option.bind_eq_some_iff.mp H
           obtain ⟨⟨t678, t681⟩, A1070, H⟩ := H
           replace H : ((impl_SayBeat.f kj64 t678 t681 a1).bind fun bt684 => ((laws_eqState.f kj64 bt684.1 bt684.2.1 t639 t642).bind fun t692 => (if t692 = true then (laws_FnExactSayBeat.j2 kj64 t674 (bt684.2.2 != t645) t675 t676) else (laws_FnExactSayBeat.j2 kj64 t674 true t675 t676)))) = some r := H
           have A107 := zm A1070
           clear A1070
           replace H := Option.bind_eq_some_iff.mp H
           obtain ⟨⟨t684, t687, t690⟩, A1080, H⟩ := H
           replace H : ((laws_eqState.f kj64 t684 t687 t639 t642).bind fun t692 => (if t692 = true then (laws_FnExactSayBeat.j2 kj64 t674 (t690 != t645) t675 t676) else (laws_FnExactSayBeat.j2 kj64 t674 true t675 t676))) = some r := H
           have A108 := zm A1080
           clear A1080
           have HC109 := zm H
           clear H
           have hnb110 := NB661_631.out
           have hnc110 := NB631_661.out
           have hnb111 := NB661_646.out
           have hnc111 := NB646_661.out
           have hnb112 := NB661_653.out
           have hnc112 := NB653_661.out
           have hcz113_0 : wc.cell? ⟨gb661, 0, none⟩ = some (.slice Ao36 t654.length co36) := (blk_cell BK661.out 0).trans rfl
           have hcz113_1 : wc.cell? ⟨gb661, 1, none⟩ = some (.slice Ao41 t657.length co41) := (blk_cell BK661.out 1).trans rfl
           have hfz113_0 := blk_frozen BK661.out 0
           have hfz113_1 := blk_frozen BK661.out 1
           go_upto_region 25 with (first | ((with_reducible refine gate_callee (f := 19) rfl ?_); refine zg (some 68) #[.agg #[.slice Ao36 t654.length co36, .slice Ao41 t657.length co41], .int .i64 1] Try.func19 ?_; (with_reducible refine (laws_markState.calls kj64 (fun k_ => some k_ = (.slice Ao36 t654.length co36 : Value).ownBlock) (.slice Ao36 t654.length co36) t654 (fun k_ => some k_ = (.slice Ao41 t657.length co41 : Value).ownBlock) (.slice Ao41 t657.length co41) t657 1 t674 t675 t676 w _ zB ?side2 ?side3 A96.out).mono ?_); (case side2 => exact Kd.R_tight rfl HO_662000.out); (case side3 => exact Kd.R_tight rfl HO_662001.out); rintro e w114 ⟨rfl, hy0, hy1, hb, hkp⟩; refine ⟨_, rfl, ?_⟩; replace HO_647000 := zm (Kd.R_mono (ok' := fun k_ => some k_ ≠ (.slice Ao29 t671.length co29 : Value).ownBlock ∧ some k_ ≠ (.slice Ao36 t654.length co36 : Value).ownBlock) (Kd.R_keptB ((Kd.R_apart' HO_647000.out (Kd.R_typed HO_662001.out) (by decide))) hkp (fun k_ hk_ hs_ => Or.elim hs_ (fun e_ => (hk_.1.2) e_) (fun e_ => (hk_.2) e_))) (fun k_ hk_ => ⟨hk_.1.1.1, hk_.1.1.2⟩)); replace HO_647001 := zm (Kd.R_mono (ok' := fun k_ => some k_ ≠ (.slice Ao33 t672.length co33 : Value).ownBlock ∧ some k_ ≠ (.slice Ao41 t657.length co41 : Value).ownBlock) (Kd.R_keptB ((Kd.R_apart' HO_647001.out (Kd.R_typed HO_662000.out) (by decide))) hkp (fun k_ hk_ hs_ => Or.elim hs_ (fun e_ => (hk_.2) e_) (fun e_ => (hk_.1.2) e_))) (fun k_ hk_ => ⟨hk_.1.1.1, hk_.1.1.2⟩)); replace HO_654000 := zm (Kd.R_mono (ok' := fun k_ => some k_ ≠ (.slice Ao22 t639.length co22 : Value).ownBlock ∧ some k_ ≠ (.slice Ao36 t654.length co36 : Value).ownBlock) (Kd.R_keptB ((Kd.R_apart' HO_654000.out (Kd.R_typed HO_662001.out) (by decide))) hkp (fun k_ hk_ hs_ => Or.elim hs_ (fun e_ => (hk_.1.2) e_) (fun e_ => (hk_.2) e_))) (fun k_ hk_ => ⟨hk_.1.1.1, hk_.1.1.2⟩)); replace HO_654001 := zm (Kd.R_mono (ok' := fun k_ => some k_ ≠ (.slice Ao25 t642.length co25 : Value).ownBlock ∧ some k_ ≠ (.slice Ao41 t657.length co41 : Value).ownBlock) (Kd.R_keptB ((Kd.R_apart' HO_654001.out (Kd.R_typed HO_662000.out) (by decide))) hkp (fun k_ hk_ hs_ => Or.elim hs_ (fun e_ => (hk_.2) e_) (fun e_ => (hk_.1.2) e_))) (fun k_ hk_ => ⟨hk_.1.1.1, hk_.1.1.2⟩)); replace BK631 := zm (blk_kept (zb BK631) hkp (fun hs_ => Or.elim hs_ (fun e_ => (fun e_ => (Kd.R_ne HO_662000.out BK631.out (by decide)) e_) e_) (fun e_ => (fun e_ => (Kd.R_ne HO_662001.out BK631.out (by decide)) e_) e_))); replace BK646 := zm (blk_kept (zb BK646) hkp (fun hs_ => Or.elim hs_ (fun e_ => (fun e_ => (Kd.R_ne HO_662000.out BK646.out (by decide)) e_) e_) (fun e_ => (fun e_ => (Kd.R_ne HO_662001.out BK646.out (by decide)) e_) e_))); replace BK653 := zm (blk_kept (zb BK653) hkp (fun hs_ => Or.elim hs_ (fun e_ => (fun e_ => (Kd.R_ne HO_662000.out BK653.out (by decide)) e_) e_) (fun e_ => (fun e_ => (Kd.R_ne HO_662001.out BK653.out (by decide)) e_) e_))); replace BK661 := zm (blk_kept (zb BK661) hkp (fun hs_ => Or.elim hs_ (fun e_ => (fun e_ => (Kd.R_ne HO_662000.out BK661.out (by decide)) e_) e_) (fun e_ => (fun e_ => (Kd.R_ne HO_662001.out BK661.out (by decide)) e_) e_))); replace HO_662000 := zm (Kd.R_reok rfl hy0 (fun k_ e_ => HO_662000.out.1 k_ e_)); replace HO_662001 := zm (Kd.R_reok rfl hy1 (fun k_ e_ => HO_662001.out.1 k_ e_)); replace HB := zm (hb); clear hb hkp hy0; (try clear hy1); have hcz115_0 : w114.cell? ⟨gb661, 0, none⟩ = some (.slice Ao36 t654.length co36) := (blk_cell BK661.out 0).trans rfl; have hcz115_1 : w114.cell? ⟨gb661, 1, none⟩ = some (.slice Ao41 t657.length co41) := (blk_cell BK661.out 1).trans rfl; have hfz115_0 := blk_frozen BK661.out 0; have hfz115_1 := blk_frozen BK661.out 1) | ((with_reducible refine gate_callee (f := 26) rfl ?_); refine goesL_ (some 71) rfl rfl Try.func26 (by kernel_rfl) rfl #[.agg #[.slice Ao36 t675.length co36, .slice Ao41 t676.length co41], .int .i64 1] rfl (by (try simp only [List.map_toArray, List.map_cons, List.map_nil]); first | done | (rw [show t675.length = t654.length from (Kd.R_reads' HO_662000.out).1.symm, show t676.length = t657.length from (Kd.R_reads' HO_662001.out).1.symm] <;> rfl) | rfl | (simp only [List.length_drop, List.length_take]; rfl)) ?_; (with_reducible refine (laws_heldState.calls kj64 _ _ t675 _ _ t676 1 t677 _ ?side1 ?side2 ?side3 ?side4 A97.out).mono ?_); (case side1 => repeat (first | exact (Kd.R_reads' HO_662000.out).2.2 | (with_reducible refine Kd.C_alloc ?_ _) | (with_reducible refine Kd.C_drewN ?_ _) | (with_reducible refine Kd.C_drew ?_))); (case side2 => rw [show t675.length = t654.length from (Kd.R_reads' HO_662000.out).1.symm]; exact (Kd.R_reads' HO_662000.out).2.1); (case side3 => repeat (first | exact (Kd.R_reads' HO_662001.out).2.2 | (with_reducible refine Kd.C_alloc ?_ _) | (with_reducible refine Kd.C_drewN ?_ _) | (with_reducible refine Kd.C_drew ?_))); (case side4 => rw [show t676.length = t657.length from (Kd.R_reads' HO_662001.out).1.symm]; exact (Kd.R_reads' HO_662001.out).2.1); rintro e w116 ⟨rfl, hb⟩; refine ⟨_, rfl, ?_⟩; replace HO_647000 := zm (Kd.R_below (zr HO_647000) hb); replace HO_647001 := zm (Kd.R_below (zr HO_647001) hb); replace HO_654000 := zm (Kd.R_below (zr HO_654000) hb); replace HO_654001 := zm (Kd.R_below (zr HO_654001) hb); replace HO_662000 := zm (Kd.R_below (zr HO_662000) hb); replace HO_662001 := zm (Kd.R_below (zr HO_662001) hb); replace BK631 := zm (blk_below (zb BK631) hb); replace BK646 := zm (blk_below (zb BK646) hb); replace BK653 := zm (blk_below (zb BK653) hb); replace BK661 := zm (blk_below (zb BK661) hb); replace HB := zm (below_step zB hb); clear hb; have hnb117 := NB631_646.out; have hnc117 := NB646_631.out; have hnb118 := NB631_653.out; have hnc118 := NB653_631.out; have hcz119_0 : w116.cell? ⟨gb631, 0, none⟩ = some (.slice A0_0 l0_0.length c0_0) := (blk_cell BK631.out 0).trans rfl; have hcz119_1 : w116.cell? ⟨gb631, 1, none⟩ = some (.slice A0_1 l0_1.length c0_1) := (blk_cell BK631.out 1).trans rfl; have hfz119_0 := blk_frozen BK631.out 0; have hfz119_1 := blk_frozen BK631.out 1) | ((with_reducible refine gate_callee (f := 15) rfl ?_); refine zg (some 79) #[.agg #[.slice A0_0 l0_0.length c0_0, .slice A0_1 l0_1.length c0_1]] Try.func15 ?_; (with_reducible refine (laws_toState.calls kj64 _ _ l0_0 _ _ l0_1 t678 t681 _ (zk (Kd.C_below HR0_0.out HB.out)) HC0_0.out (zk (Kd.C_below HR0_1.out HB.out)) HC0_1.out A107.out).mono ?_); rintro e w120 ⟨v679, v682, rfl, ho0, ho1, hb⟩; refine ⟨_, rfl, ?_⟩; have HO680 := zm (Kd.R_lower (Kd.R_new' (Kd.R_new' (Kd.R_new' ho0 (Kd.R_lt (zr HO_647000))) (Kd.R_lt (zr HO_654000))) (Kd.R_lt (zr HO_662000))) (below_size zB)); replace HO_647000 := zm (Kd.R_elder' (zr HO_647000) (Kd.R_base ho0) hb); replace HO_654000 := zm (Kd.R_elder' (zr HO_654000) (Kd.R_base ho0) hb); replace HO_662000 := zm (Kd.R_elder' (zr HO_662000) (Kd.R_base ho0) hb); have HO683 := zm (Kd.R_lower (Kd.R_new' (Kd.R_new' (Kd.R_new' ho1 (Kd.R_lt (zr HO_647001))) (Kd.R_lt (zr HO_654001))) (Kd.R_lt (zr HO_662001))) (below_size zB)); replace HO_647001 := zm (Kd.R_elder' (zr HO_647001) (Kd.R_base ho1) hb); replace HO_654001 := zm (Kd.R_elder' (zr HO_654001) (Kd.R_base ho1) hb); replace HO_662001 := zm (Kd.R_elder' (zr HO_662001) (Kd.R_base ho1) hb); replace BK631 := zm (blk_below (zb BK631) hb); replace BK646 := zm (blk_below (zb BK646) hb); replace BK653 := zm (blk_below (zb BK653) hb); replace BK661 := zm (blk_below (zb BK661) hb); replace HB := zm (below_step zB hb); clear hb ho0 ho1; obtain ⟨Ao121, co121, eo121⟩ := Kd.R_slice HO680.out; subst eo121; obtain ⟨Ao122, co122, eo122⟩ := Kd.R_slice HO683.out; subst eo122) | ((with_reducible refine gate_callee (f := 28) rfl ?_); refine zg (some 81) #[.agg #[.slice Ao121 t678.length co121, .slice Ao122 t681.length co122], .int .i64 a1] Try.func28 ?_; (with_reducible refine (impl_SayBeat.calls kj64 _ _ t678 _ _ t681 a1 t684 t687 t690 _ ?side1 ?side2 ?side3 ?side4 A108.out).mono ?_); (case side1 => repeat (first | exact (Kd.R_reads' HO680.out).2.2 | (with_reducible refine Kd.C_alloc ?_ _) | (with_reducible refine Kd.C_drewN ?_ _) | (with_reducible refine Kd.C_drew ?_))); (case side2 => exact (Kd.R_reads' HO680.out).2.1); (case side3 => repeat (first | exact (Kd.R_reads' HO683.out).2.2 | (with_reducible refine Kd.C_alloc ?_ _) | (with_reducible refine Kd.C_drewN ?_ _) | (with_reducible refine Kd.C_drew ?_))); (case side4 => exact (Kd.R_reads' HO683.out).2.1); rintro e w123 ⟨v685, v688, rfl, ho0, ho1, hb⟩; refine ⟨_, rfl, ?_⟩; have HO686 := zm (Kd.R_lower (Kd.R_new' (Kd.R_new' (Kd.R_new' (Kd.R_new' ho0 (Kd.R_lt (zr HO_647000))) (Kd.R_lt (zr HO_654000))) (Kd.R_lt (zr HO_662000))) (Kd.R_lt (zr HO680))) (below_size zB)); replace HO_647000 := zm (Kd.R_elder' (zr HO_647000) (Kd.R_base ho0) hb); replace HO_654000 := zm (Kd.R_elder' (zr HO_654000) (Kd.R_base ho0) hb); replace HO_662000 := zm (Kd.R_elder' (zr HO_662000) (Kd.R_base ho0) hb); replace HO680 := zm (Kd.R_elder' (zr HO680) (Kd.R_base ho0) hb); have HO689 := zm (Kd.R_lower (Kd.R_new' (Kd.R_new' (Kd.R_new' (Kd.R_new' ho1 (Kd.R_lt (zr HO_647001))) (Kd.R_lt (zr HO_654001))) (Kd.R_lt (zr HO_662001))) (Kd.R_lt (zr HO683))) (below_size zB)); replace HO_647001 := zm (Kd.R_elder' (zr HO_647001) (Kd.R_base ho1) hb); replace HO_654001 := zm (Kd.R_elder' (zr HO_654001) (Kd.R_base ho1) hb); replace HO_662001 := zm (Kd.R_elder' (zr HO_662001) (Kd.R_base ho1) hb); replace HO683 := zm (Kd.R_elder' (zr HO683) (Kd.R_base ho1) hb); replace BK631 := zm (blk_below (zb BK631) hb); replace BK646 := zm (blk_below (zb BK646) hb); replace BK653 := zm (blk_below (zb BK653) hb); replace BK661 := zm (blk_below (zb BK661) hb); replace HB := zm (below_step zB hb); clear hb ho0 ho1) | ((with_reducible refine gate_dst (N := 14) rfl ?_); refine zbox 14 #[.slice none 0 0, .slice none 0 0] 32 ?_; intro gb691 hg w124 hbox hb; replace HO_647000 := zm (Kd.R_below (zr HO_647000) hb); replace HO_647001 := zm (Kd.R_below (zr HO_647001) hb); replace HO_654000 := zm (Kd.R_below (zr HO_654000) hb); replace HO_654001 := zm (Kd.R_below (zr HO_654001) hb); replace HO_662000 := zm (Kd.R_below (zr HO_662000) hb); replace HO_662001 := zm (Kd.R_below (zr HO_662001) hb); replace HO680 := zm (Kd.R_below (zr HO680) hb); replace HO683 := zm (Kd.R_below (zr HO683) hb); replace HO686 := zm (Kd.R_below (zr HO686) hb); replace HO689 := zm (Kd.R_below (zr HO689) hb); have BK691 := zm (hbox); have GW691 := zge w hg zB; have GE691 := zge w hg zB; replace HB := zm (below_step zB hb); have NB631_691 := zlt hg (zb BK631); have NB691_631 := zgt hg (zb BK631); replace BK631 := zm (blk_below (zb BK631) hb); have NB646_691 := zlt hg (zb BK646); have NB691_646 := zgt hg (zb BK646); replace BK646 := zm (blk_below (zb BK646) hb); have NB653_691 := zlt hg (zb BK653); have NB691_653 := zgt hg (zb BK653); replace BK653 := zm (blk_below (zb BK653) hb); have NB661_691 := zlt hg (zb BK661); have NB691_661 := zgt hg (zb BK661); replace BK661 := zm (blk_below (zb BK661) hb); clear hb hbox hg; obtain ⟨Ao125, co125, eo125⟩ := Kd.R_slice HO686.out; subst eo125; have hnb126 := NB691_631.out; have hnc126 := NB631_691.out; have hnb127 := NB691_646.out; have hnc127 := NB646_691.out; have hnb128 := NB691_653.out; have hnc128 := NB653_691.out; have hnb129 := NB691_661.out; have hnc129 := NB661_691.out; have hcz130_0 : w124.cell? ⟨gb691, 0, none⟩ = some (.slice none 0 0) := (blk_cell BK691.out 0).trans rfl; have hcz130_1 : w124.cell? ⟨gb691, 1, none⟩ = some (.slice none 0 0) := (blk_cell BK691.out 1).trans rfl; have hfz130_0 := blk_frozen BK691.out 0; have hfz130_1 := blk_frozen BK691.out 1; obtain ⟨Ao131, co131, eo131⟩ := Kd.R_slice HO689.out; subst eo131))
           (try simp only [Act.put, List.setIfInBounds_toArray, List.set_cons_zero, List.set_cons_succ])
           go_cut [92] (fun v92 wc => ∃ (kq : Nat) (x92_108 : Bool), v92 = .bool x92_108 ∧ Aside0 (laws_FnExactSayBeat.j2 kq t674 x92_108 t675 t676 = some r) ∧ Aside0 (kq ≤ kj64) ∧ Aside0 (Kd.R k68 68 wc w.heap.size (fun k_ => some k_ ≠ ((.slice Ao29 t671.length co29) : Value).ownBlock ∧ some k_ ≠ ((.slice Ao36 t654.length co36) : Value).ownBlock ∧ some k_ ≠ ((.slice Ao125 t684.length co125) : Value).ownBlock) (.slice Ao22 t639.length co22) t639) ∧ Aside0 (Kd.R k72 72 wc w.heap.size (fun k_ => some k_ ≠ ((.slice Ao33 t672.length co33) : Value).ownBlock ∧ some k_ ≠ ((.slice Ao41 t657.length co41) : Value).ownBlock ∧ some k_ ≠ ((.slice Ao131 t687.length co131) : Value).ownBlock) (.slice Ao25 t642.length co25) t642) ∧ Aside0 (Kd.R k68 68 wc w.heap.size (fun k_ => some k_ ≠ ((.slice Ao22 t639.length co22) : Value).ownBlock ∧ some k_ ≠ ((.slice Ao36 t654.length co36) : Value).ownBlock ∧ some k_ ≠ ((.slice Ao125 t684.length co125) : Value).ownBlock) (.slice Ao29 t671.length co29) t671) ∧ Aside0 (Kd.R k72 72 wc w.heap.size (fun k_ => some k_ ≠ ((.slice Ao25 t642.length co25) : Value).ownBlock ∧ some k_ ≠ ((.slice Ao41 t657.length co41) : Value).ownBlock ∧ some k_ ≠ ((.slice Ao131 t687.length co131) : Value).ownBlock) (.slice Ao33 t672.length co33) t672) ∧ Aside0 (Kd.R k68 68 wc w.heap.size (fun k_ => some k_ ≠ ((.slice Ao22 t639.length co22) : Value).ownBlock ∧ some k_ ≠ ((.slice Ao29 t671.length co29) : Value).ownBlock ∧ some k_ ≠ ((.slice Ao125 t684.length co125) : Value).ownBlock) (.slice Ao36 t654.length co36) t675) ∧ Aside0 (Kd.R k72 72 wc w.heap.size (fun k_ => some k_ ≠ ((.slice Ao25 t642.length co25) : Value).ownBlock ∧ some k_ ≠ ((.slice Ao33 t672.length co33) : Value).ownBlock ∧ some k_ ≠ ((.slice Ao131 t687.length co131) : Value).ownBlock) (.slice Ao41 t657.length co41) t676) ∧ Aside0 (Kd.R k68 68 wc w.heap.size (fun k_ => some k_ ≠ ((.slice Ao22 t639.length co22) : Value).ownBlock ∧ some k_ ≠ ((.slice Ao29 t671.length co29) : Value).ownBlock ∧ some k_ ≠ ((.slice Ao36 t654.length co36) : Value).ownBlock) (.slice Ao125 t684.length co125) t684) ∧ Aside0 (Kd.R k72 72 wc w.heap.size (fun k_ => some k_ ≠ ((.slice Ao25 t642.length co25) : Value).ownBlock ∧ some k_ ≠ ((.slice Ao33 t672.length co33) : Value).ownBlock ∧ some k_ ≠ ((.slice Ao41 t657.length co41) : Value).ownBlock) (.slice Ao131 t687.length co131) t687) ∧ Aside0 (wc.heap[gb631]? = some (.cells #[(.slice A0_0 l0_0.length c0_0), (.slice A0_1 l0_1.length c0_1)] 25 (0, 0))) ∧ Aside0 (wc.heap[gb646]? = some (.cells #[(.slice Ao22 t639.length co22), (.slice Ao25 t642.length co25)] 32 (0, 0))) ∧ Aside0 (wc.heap[gb653]? = some (.cells #[(.slice Ao29 t671.length co29), (.slice Ao33 t672.length co33)] 32 (0, 0))) ∧ Aside0 (wc.heap[gb661]? = some (.cells #[(.slice Ao36 t654.length co36), (.slice Ao41 t657.length co41)] 32 (0, 0))) ∧ Aside0 (wc.heap[gb691]? = some (.cells #[(.slice Ao125 t684.length co125), (.slice Ao131 t687.length co131)] 32 (0, 0))) ∧ Aside0 (Below w.heap.size w wc))
           case first =>
            have H := HC109.out
            clear HC109
            replace H := Option.bind_eq_some_iff.mp H
            obtain ⟨t692, A1320, H⟩ := H
            replace H : (if t692 = true then (laws_FnExactSayBeat.j2 kj64 t674 (t690 != t645) t675 t676) else (laws_FnExactSayBeat.j2 kj64 t674 true t675 t676)) = some r := H
            have A132 := zm A1320
            clear A1320
            by_cases c133 : t692 = true
            ·subst c133
             have H1 : (laws_FnExactSayBeat.j2 kj64 t674 (t690 != t645) t675 t676) = some r := by rw [if_pos rfl] at H; exact H
             clear H
             have H := H1
             clear H1
             have H' := zm H
             clear H
             have hnb134 := NB691_631.out
             have hnc134 := NB631_691.out
             have hnb135 := NB691_646.out
             have hnc135 := NB646_691.out
             have hnb136 := NB691_653.out
             have hnc136 := NB653_691.out
             have hnb137 := NB691_661.out
             have hnc137 := NB661_691.out
             have hcz138_0 : w124.cell? ⟨gb691, 0, none⟩ = some (.slice none 0 0) := (blk_cell BK691.out 0).trans rfl
             have hcz138_1 : w124.cell? ⟨gb691, 1, none⟩ = some (.slice none 0 0) := (blk_cell BK691.out 1).trans rfl
             have hfz138_0 := blk_frozen BK691.out 0
             have hfz138_1 := blk_frozen BK691.out 1
             have hnb139 := NB646_631.out
             have hnc139 := NB631_646.out
             have hnb140 := NB646_653.out
             have hnc140 := NB653_646.out
             have hnb141 := NB646_661.out
             have hnc141 := NB661_646.out
             have hcz142_0 : w124.cell? ⟨gb646, 0, none⟩ = some (.slice Ao22 t639.length co22) := (blk_cell BK646.out 0).trans rfl
             have hcz142_1 : w124.cell? ⟨gb646, 1, none⟩ = some (.slice Ao25 t642.length co25) := (blk_cell BK646.out 1).trans rfl
             have hfz142_0 := blk_frozen BK646.out 0
             have hfz142_1 := blk_frozen BK646.out 1
             go_wp2_with (first | ((with_reducible refine gate_callee (f := 18) rfl ?_); refine zg (some 86) #[.agg #[.slice Ao125 t684.length co125, .slice Ao131 t687.length co131], .agg #[.slice Ao22 t639.length co22, .slice Ao25 t642.length co25]] Try.func18 ?_; (with_reducible refine (laws_eqState.calls kj64 _ _ t684 _ _ t687 _ _ t639 _ _ t642 true _ ?side1 ?side2 ?side3 ?side4 ?side5 ?side6 ?side7 ?side8 A132.out).mono ?_); (case side1 => refine (Kd.R_reads' (e := 68) (base := w.heap.size) (ok := fun k_ => ((((True ∧ some k_ ≠ (.slice Ao22 t639.length co22 : Value).ownBlock) ∧ some k_ ≠ (.slice Ao29 t671.length co29 : Value).ownBlock) ∧ some k_ ≠ (.slice Ao36 t654.length co36 : Value).ownBlock) ∧ some k_ ≠ (.slice Ao121 t678.length co121 : Value).ownBlock)) (n := t684.length) (c := co125) ?_).2.2; exact (zrs <| (Kd.R_mono (zfr (zfr (Kd.R_types HO686.out BK691.out (by decide)))) (fun _ h_ => h_.1)))); (case side2 => exact (Kd.R_reads' HO686.out).2.1); (case side3 => refine (Kd.R_reads' (e := 72) (base := w.heap.size) (ok := fun k_ => ((((True ∧ some k_ ≠ (.slice Ao25 t642.length co25 : Value).ownBlock) ∧ some k_ ≠ (.slice Ao33 t672.length co33 : Value).ownBlock) ∧ some k_ ≠ (.slice Ao41 t657.length co41 : Value).ownBlock) ∧ some k_ ≠ (.slice Ao122 t681.length co122 : Value).ownBlock)) (n := t687.length) (c := co131) ?_).2.2; exact (zrs <| (Kd.R_mono (zfr (zfr (Kd.R_types HO689.out BK691.out (by decide)))) (fun _ h_ => h_.1)))); (case side4 => exact (Kd.R_reads' HO689.out).2.1); (case side5 => refine (Kd.R_reads' (e := 68) (base := w.heap.size) (ok := fun k_ => (((some k_ ≠ (.slice Ao29 t671.length co29 : Value).ownBlock ∧ some k_ ≠ (.slice Ao36 t654.length co36 : Value).ownBlock) ∧ some k_ ≠ (.slice Ao121 t678.length co121 : Value).ownBlock) ∧ some k_ ≠ (.slice Ao125 t684.length co125 : Value).ownBlock)) (n := t639.length) (c := co22) ?_).2.2; exact (zrs <| (Kd.R_mono (zfr (zfr (Kd.R_types HO_647000.out BK691.out (by decide)))) (fun _ h_ => h_.1)))); (case side6 => exact (Kd.R_reads' HO_647000.out).2.1); (case side7 => refine (Kd.R_reads' (e := 72) (base := w.heap.size) (ok := fun k_ => (((some k_ ≠ (.slice Ao33 t672.length co33 : Value).ownBlock ∧ some k_ ≠ (.slice Ao41 t657.length co41 : Value).ownBlock) ∧ some k_ ≠ (.slice Ao122 t681.length co122 : Value).ownBlock) ∧ some k_ ≠ (.slice Ao131 t687.length co131 : Value).ownBlock)) (n := t642.length) (c := co25) ?_).2.2; exact (zrs <| (Kd.R_mono (zfr (zfr (Kd.R_types HO_647001.out BK691.out (by decide)))) (fun _ h_ => h_.1)))); (case side8 => exact (Kd.R_reads' HO_647001.out).2.1); rintro e w143 ⟨rfl, hb⟩; refine ⟨_, rfl, ?_⟩; replace HO_647000 := zm (Kd.R_below (zrs <| (Kd.R_mono (zfr (zfr (Kd.R_types HO_647000.out BK691.out (by decide)))) (fun _ h_ => h_.1))) hb); replace HO_647001 := zm (Kd.R_below (zrs <| (Kd.R_mono (zfr (zfr (Kd.R_types HO_647001.out BK691.out (by decide)))) (fun _ h_ => h_.1))) hb); replace HO_654000 := zm (Kd.R_below (zrs <| (Kd.R_mono (zfr (zfr (Kd.R_types HO_654000.out BK691.out (by decide)))) (fun _ h_ => h_.1))) hb); replace HO_654001 := zm (Kd.R_below (zrs <| (Kd.R_mono (zfr (zfr (Kd.R_types HO_654001.out BK691.out (by decide)))) (fun _ h_ => h_.1))) hb); replace HO_662000 := zm (Kd.R_below (zrs <| (Kd.R_mono (zfr (zfr (Kd.R_types HO_662000.out BK691.out (by decide)))) (fun _ h_ => h_.1))) hb); replace HO_662001 := zm (Kd.R_below (zrs <| (Kd.R_mono (zfr (zfr (Kd.R_types HO_662001.out BK691.out (by decide)))) (fun _ h_ => h_.1))) hb); replace HO680 := zm (Kd.R_below (zrs <| (Kd.R_mono (zfr (zfr (Kd.R_types HO680.out BK691.out (by decide)))) (fun _ h_ => h_.1))) hb); replace HO683 := zm (Kd.R_below (zrs <| (Kd.R_mono (zfr (zfr (Kd.R_types HO683.out BK691.out (by decide)))) (fun _ h_ => h_.1))) hb); replace HO686 := zm (Kd.R_below (zrs <| (Kd.R_mono (zfr (zfr (Kd.R_types HO686.out BK691.out (by decide)))) (fun _ h_ => h_.1))) hb); replace HO689 := zm (Kd.R_below (zrs <| (Kd.R_mono (zfr (zfr (Kd.R_types HO689.out BK691.out (by decide)))) (fun _ h_ => h_.1))) hb); replace BK631 := zm (blk_below (g := gb631) (o := .cells #[.slice A0_0 l0_0.length c0_0, .slice A0_1 l0_1.length c0_1] 25 (0, 0)) (zfar (zfar (zb BK631) NB631_691) NB631_691) hb); replace BK646 := zm (blk_below (g := gb646) (o := .cells #[.slice Ao22 t639.length co22, .slice Ao25 t642.length co25] 32 (0, 0)) (zfar (zfar (zb BK646) NB646_691) NB646_691) hb); replace BK653 := zm (blk_below (g := gb653) (o := .cells #[.slice Ao29 t671.length co29, .slice Ao33 t672.length co33] 32 (0, 0)) (zfar (zfar (zb BK653) NB653_691) NB653_691) hb); replace BK661 := zm (blk_below (g := gb661) (o := .cells #[.slice Ao36 t654.length co36, .slice Ao41 t657.length co41] 32 (0, 0)) (zfar (zfar (zb BK661) NB661_691) NB661_691) hb); replace BK691 := zm (blk_below (g := gb691) (o := .cells #[.slice Ao125 t684.length co125, .slice Ao131 t687.length co131] 32 (0, 0)) (zput (zput (zb BK691) 0) 1) hb); replace HB := zm (below_step zB hb); clear hb))
             go_meet
             case rel => exact ⟨_, ((t690 != t645)), zF, H', ⟨by have := HJ11.out; have := HJ64.out; first | omega | exact Nat.le_refl _⟩, ⟨by (try simp only [hl654000_64]); (try simp only [hl654001_64]); (with_reducible repeat (first | apply Kd.R_alloc | apply Kd.R_drewN | apply Kd.R_drew)); exact Kd.R_mono HO_647000.out (fun _ hk => ⟨hk.1.1.1, ⟨hk.1.1.2, hk.2⟩⟩)⟩, ⟨by (try simp only [hl654000_64]); (try simp only [hl654001_64]); (with_reducible repeat (first | apply Kd.R_alloc | apply Kd.R_drewN | apply Kd.R_drew)); exact Kd.R_mono HO_647001.out (fun _ hk => ⟨hk.1.1.1, ⟨hk.1.1.2, hk.2⟩⟩)⟩, ⟨by (try simp only [hl654000_64]); (try simp only [hl654001_64]); (with_reducible repeat (first | apply Kd.R_alloc | apply Kd.R_drewN | apply Kd.R_drew)); exact Kd.R_mono HO_654000.out (fun _ hk => ⟨hk.1.1.1, ⟨hk.1.1.2, hk.2⟩⟩)⟩, ⟨by (try simp only [hl654000_64]); (try simp only [hl654001_64]); (with_reducible repeat (first | apply Kd.R_alloc | apply Kd.R_drewN | apply Kd.R_drew)); exact Kd.R_mono HO_654001.out (fun _ hk => ⟨hk.1.1.1, ⟨hk.1.1.2, hk.2⟩⟩)⟩, ⟨by (try simp only [hl654000_64]); (try simp only [hl654001_64]); (with_reducible repeat (first | apply Kd.R_alloc | apply Kd.R_drewN | apply Kd.R_drew)); exact Kd.R_mono HO_662000.out (fun _ hk => ⟨hk.1.1.1, ⟨hk.1.1.2, hk.2⟩⟩)⟩, ⟨by (try simp only [hl654000_64]); (try simp only [hl654001_64]); (with_reducible repeat (first | apply Kd.R_alloc | apply Kd.R_drewN | apply Kd.R_drew)); exact Kd.R_mono HO_662001.out (fun _ hk => ⟨hk.1.1.1, ⟨hk.1.1.2, hk.2⟩⟩)⟩, ⟨by (try simp only [hl654000_64]); (try simp only [hl654001_64]); (with_reducible repeat (first | apply Kd.R_alloc | apply Kd.R_drewN | apply Kd.R_drew)); exact Kd.R_mono HO686.out (fun _ hk => ⟨hk.1.1.1.2, ⟨hk.1.1.2, hk.1.2⟩⟩)⟩, ⟨by (try simp only [hl654000_64]); (try simp only [hl654001_64]); (with_reducible repeat (first | apply Kd.R_alloc | apply Kd.R_drewN | apply Kd.R_drew)); exact Kd.R_mono HO689.out (fun _ hk => ⟨hk.1.1.1.2, ⟨hk.1.1.2, hk.1.2⟩⟩)⟩, ⟨by (try simp only [hl654000_64]); (try simp only [hl654001_64]); (with_reducible repeat (first | refine blk_drewN ?_ _ | refine blk_drew ?_ | refine blk_alloc ?_ _)); exact BK631.out⟩, ⟨by (try simp only [hl654000_64]); (try simp only [hl654001_64]); (with_reducible repeat (first | refine blk_drewN ?_ _ | refine blk_drew ?_ | refine blk_alloc ?_ _)); exact BK646.out⟩, ⟨by (try simp only [hl654000_64]); (try simp only [hl654001_64]); (with_reducible repeat (first | refine blk_drewN ?_ _ | refine blk_drew ?_ | refine blk_alloc ?_ _)); exact BK653.out⟩, ⟨by (try simp only [hl654000_64]); (try simp only [hl654001_64]); (with_reducible repeat (first | refine blk_drewN ?_ _ | refine blk_drew ?_ | refine blk_alloc ?_ _)); exact BK661.out⟩, ⟨by (try simp only [hl654000_64]); (try simp only [hl654001_64]); (with_reducible repeat (first | refine blk_drewN ?_ _ | refine blk_drew ?_ | refine blk_alloc ?_ _)); exact BK691.out⟩, ⟨zB⟩⟩
            ·replace c133 := Bool.eq_false_iff.mpr c133
             subst c133
             have H1 : (laws_FnExactSayBeat.j2 kj64 t674 true t675 t676) = some r := by rw [if_neg (show ¬ (false = true) by decide)] at H; exact H
             clear H
             have H := H1
             clear H1
             have H' := zm H
             clear H
             have hnb144 := NB691_631.out
             have hnc144 := NB631_691.out
             have hnb145 := NB691_646.out
             have hnc145 := NB646_691.out
             have hnb146 := NB691_653.out
             have hnc146 := NB653_691.out
             have hnb147 := NB691_661.out
             have hnc147 := NB661_691.out
             have hcz148_0 : w124.cell? ⟨gb691, 0, none⟩ = some (.slice none 0 0) := (blk_cell BK691.out 0).trans rfl
             have hcz148_1 : w124.cell? ⟨gb691, 1, none⟩ = some (.slice none 0 0) := (blk_cell BK691.out 1).trans rfl
             have hfz148_0 := blk_frozen BK691.out 0
             have hfz148_1 := blk_frozen BK691.out 1
             have hnb149 := NB646_631.out
             have hnc149 := NB631_646.out
             have hnb150 := NB646_653.out
             have hnc150 := NB653_646.out
             have hnb151 := NB646_661.out
             have hnc151 := NB661_646.out
             have hcz152_0 : w124.cell? ⟨gb646, 0, none⟩ = some (.slice Ao22 t639.length co22) := (blk_cell BK646.out 0).trans rfl
             have hcz152_1 : w124.cell? ⟨gb646, 1, none⟩ = some (.slice Ao25 t642.length co25) := (blk_cell BK646.out 1).trans rfl
             have hfz152_0 := blk_frozen BK646.out 0
             have hfz152_1 := blk_frozen BK646.out 1
             go_wp2_with (first | ((with_reducible refine gate_callee (f := 18) rfl ?_); refine zg (some 86) #[.agg #[.slice Ao125 t684.length co125, .slice Ao131 t687.length co131], .agg #[.slice Ao22 t639.length co22, .slice Ao25 t642.length co25]] Try.func18 ?_; (with_reducible refine (laws_eqState.calls kj64 _ _ t684 _ _ t687 _ _ t639 _ _ t642 false _ ?side1 ?side2 ?side3 ?side4 ?side5 ?side6 ?side7 ?side8 A132.out).mono ?_); (case side1 => refine (Kd.R_reads' (e := 68) (base := w.heap.size) (ok := fun k_ => ((((True ∧ some k_ ≠ (.slice Ao22 t639.length co22 : Value).ownBlock) ∧ some k_ ≠ (.slice Ao29 t671.length co29 : Value).ownBlock) ∧ some k_ ≠ (.slice Ao36 t654.length co36 : Value).ownBlock) ∧ some k_ ≠ (.slice Ao121 t678.length co121 : Value).ownBlock)) (n := t684.length) (c := co125) ?_).2.2; exact (zrs <| (Kd.R_mono (zfr (zfr (Kd.R_types HO686.out BK691.out (by decide)))) (fun _ h_ => h_.1)))); (case side2 => exact (Kd.R_reads' HO686.out).2.1); (case side3 => refine (Kd.R_reads' (e := 72) (base := w.heap.size) (ok := fun k_ => ((((True ∧ some k_ ≠ (.slice Ao25 t642.length co25 : Value).ownBlock) ∧ some k_ ≠ (.slice Ao33 t672.length co33 : Value).ownBlock) ∧ some k_ ≠ (.slice Ao41 t657.length co41 : Value).ownBlock) ∧ some k_ ≠ (.slice Ao122 t681.length co122 : Value).ownBlock)) (n := t687.length) (c := co131) ?_).2.2; exact (zrs <| (Kd.R_mono (zfr (zfr (Kd.R_types HO689.out BK691.out (by decide)))) (fun _ h_ => h_.1)))); (case side4 => exact (Kd.R_reads' HO689.out).2.1); (case side5 => refine (Kd.R_reads' (e := 68) (base := w.heap.size) (ok := fun k_ => (((some k_ ≠ (.slice Ao29 t671.length co29 : Value).ownBlock ∧ some k_ ≠ (.slice Ao36 t654.length co36 : Value).ownBlock) ∧ some k_ ≠ (.slice Ao121 t678.length co121 : Value).ownBlock) ∧ some k_ ≠ (.slice Ao125 t684.length co125 : Value).ownBlock)) (n := t639.length) (c := co22) ?_).2.2; exact (zrs <| (Kd.R_mono (zfr (zfr (Kd.R_types HO_647000.out BK691.out (by decide)))) (fun _ h_ => h_.1)))); (case side6 => exact (Kd.R_reads' HO_647000.out).2.1); (case side7 => refine (Kd.R_reads' (e := 72) (base := w.heap.size) (ok := fun k_ => (((some k_ ≠ (.slice Ao33 t672.length co33 : Value).ownBlock ∧ some k_ ≠ (.slice Ao41 t657.length co41 : Value).ownBlock) ∧ some k_ ≠ (.slice Ao122 t681.length co122 : Value).ownBlock) ∧ some k_ ≠ (.slice Ao131 t687.length co131 : Value).ownBlock)) (n := t642.length) (c := co25) ?_).2.2; exact (zrs <| (Kd.R_mono (zfr (zfr (Kd.R_types HO_647001.out BK691.out (by decide)))) (fun _ h_ => h_.1)))); (case side8 => exact (Kd.R_reads' HO_647001.out).2.1); rintro e w153 ⟨rfl, hb⟩; refine ⟨_, rfl, ?_⟩; replace HO_647000 := zm (Kd.R_below (zrs <| (Kd.R_mono (zfr (zfr (Kd.R_types HO_647000.out BK691.out (by decide)))) (fun _ h_ => h_.1))) hb); replace HO_647001 := zm (Kd.R_below (zrs <| (Kd.R_mono (zfr (zfr (Kd.R_types HO_647001.out BK691.out (by decide)))) (fun _ h_ => h_.1))) hb); replace HO_654000 := zm (Kd.R_below (zrs <| (Kd.R_mono (zfr (zfr (Kd.R_types HO_654000.out BK691.out (by decide)))) (fun _ h_ => h_.1))) hb); replace HO_654001 := zm (Kd.R_below (zrs <| (Kd.R_mono (zfr (zfr (Kd.R_types HO_654001.out BK691.out (by decide)))) (fun _ h_ => h_.1))) hb); replace HO_662000 := zm (Kd.R_below (zrs <| (Kd.R_mono (zfr (zfr (Kd.R_types HO_662000.out BK691.out (by decide)))) (fun _ h_ => h_.1))) hb); replace HO_662001 := zm (Kd.R_below (zrs <| (Kd.R_mono (zfr (zfr (Kd.R_types HO_662001.out BK691.out (by decide)))) (fun _ h_ => h_.1))) hb); replace HO680 := zm (Kd.R_below (zrs <| (Kd.R_mono (zfr (zfr (Kd.R_types HO680.out BK691.out (by decide)))) (fun _ h_ => h_.1))) hb); replace HO683 := zm (Kd.R_below (zrs <| (Kd.R_mono (zfr (zfr (Kd.R_types HO683.out BK691.out (by decide)))) (fun _ h_ => h_.1))) hb); replace HO686 := zm (Kd.R_below (zrs <| (Kd.R_mono (zfr (zfr (Kd.R_types HO686.out BK691.out (by decide)))) (fun _ h_ => h_.1))) hb); replace HO689 := zm (Kd.R_below (zrs <| (Kd.R_mono (zfr (zfr (Kd.R_types HO689.out BK691.out (by decide)))) (fun _ h_ => h_.1))) hb); replace BK631 := zm (blk_below (g := gb631) (o := .cells #[.slice A0_0 l0_0.length c0_0, .slice A0_1 l0_1.length c0_1] 25 (0, 0)) (zfar (zfar (zb BK631) NB631_691) NB631_691) hb); replace BK646 := zm (blk_below (g := gb646) (o := .cells #[.slice Ao22 t639.length co22, .slice Ao25 t642.length co25] 32 (0, 0)) (zfar (zfar (zb BK646) NB646_691) NB646_691) hb); replace BK653 := zm (blk_below (g := gb653) (o := .cells #[.slice Ao29 t671.length co29, .slice Ao33 t672.length co33] 32 (0, 0)) (zfar (zfar (zb BK653) NB653_691) NB653_691) hb); replace BK661 := zm (blk_below (g := gb661) (o := .cells #[.slice Ao36 t654.length co36, .slice Ao41 t657.length co41] 32 (0, 0)) (zfar (zfar (zb BK661) NB661_691) NB661_691) hb); replace BK691 := zm (blk_below (g := gb691) (o := .cells #[.slice Ao125 t684.length co125, .slice Ao131 t687.length co131] 32 (0, 0)) (zput (zput (zb BK691) 0) 1) hb); replace HB := zm (below_step zB hb); clear hb))
             go_meet
             case rel => exact ⟨_, (true), zF, H', ⟨by have := HJ11.out; have := HJ64.out; first | omega | exact Nat.le_refl _⟩, ⟨by (try simp only [hl654000_64]); (try simp only [hl654001_64]); (with_reducible repeat (first | apply Kd.R_alloc | apply Kd.R_drewN | apply Kd.R_drew)); exact Kd.R_mono HO_647000.out (fun _ hk => ⟨hk.1.1.1, ⟨hk.1.1.2, hk.2⟩⟩)⟩, ⟨by (try simp only [hl654000_64]); (try simp only [hl654001_64]); (with_reducible repeat (first | apply Kd.R_alloc | apply Kd.R_drewN | apply Kd.R_drew)); exact Kd.R_mono HO_647001.out (fun _ hk => ⟨hk.1.1.1, ⟨hk.1.1.2, hk.2⟩⟩)⟩, ⟨by (try simp only [hl654000_64]); (try simp only [hl654001_64]); (with_reducible repeat (first | apply Kd.R_alloc | apply Kd.R_drewN | apply Kd.R_drew)); exact Kd.R_mono HO_654000.out (fun _ hk => ⟨hk.1.1.1, ⟨hk.1.1.2, hk.2⟩⟩)⟩, ⟨by (try simp only [hl654000_64]); (try simp only [hl654001_64]); (with_reducible repeat (first | apply Kd.R_alloc | apply Kd.R_drewN | apply Kd.R_drew)); exact Kd.R_mono HO_654001.out (fun _ hk => ⟨hk.1.1.1, ⟨hk.1.1.2, hk.2⟩⟩)⟩, ⟨by (try simp only [hl654000_64]); (try simp only [hl654001_64]); (with_reducible repeat (first | apply Kd.R_alloc | apply Kd.R_drewN | apply Kd.R_drew)); exact Kd.R_mono HO_662000.out (fun _ hk => ⟨hk.1.1.1, ⟨hk.1.1.2, hk.2⟩⟩)⟩, ⟨by (try simp only [hl654000_64]); (try simp only [hl654001_64]); (with_reducible repeat (first | apply Kd.R_alloc | apply Kd.R_drewN | apply Kd.R_drew)); exact Kd.R_mono HO_662001.out (fun _ hk => ⟨hk.1.1.1, ⟨hk.1.1.2, hk.2⟩⟩)⟩, ⟨by (try simp only [hl654000_64]); (try simp only [hl654001_64]); (with_reducible repeat (first | apply Kd.R_alloc | apply Kd.R_drewN | apply Kd.R_drew)); exact Kd.R_mono HO686.out (fun _ hk => ⟨hk.1.1.1.2, ⟨hk.1.1.2, hk.1.2⟩⟩)⟩, ⟨by (try simp only [hl654000_64]); (try simp only [hl654001_64]); (with_reducible repeat (first | apply Kd.R_alloc | apply Kd.R_drewN | apply Kd.R_drew)); exact Kd.R_mono HO689.out (fun _ hk => ⟨hk.1.1.1.2, ⟨hk.1.1.2, hk.1.2⟩⟩)⟩, ⟨by (try simp only [hl654000_64]); (try simp only [hl654001_64]); (with_reducible repeat (first | refine blk_drewN ?_ _ | refine blk_drew ?_ | refine blk_alloc ?_ _)); exact BK631.out⟩, ⟨by (try simp only [hl654000_64]); (try simp only [hl654001_64]); (with_reducible repeat (first | refine blk_drewN ?_ _ | refine blk_drew ?_ | refine blk_alloc ?_ _)); exact BK646.out⟩, ⟨by (try simp only [hl654000_64]); (try simp only [hl654001_64]); (with_reducible repeat (first | refine blk_drewN ?_ _ | refine blk_drew ?_ | refine blk_alloc ?_ _)); exact BK653.out⟩, ⟨by (try simp only [hl654000_64]); (try simp only [hl654001_64]); (with_reducible repeat (first | refine blk_drewN ?_ _ | refine blk_drew ?_ | refine blk_alloc ?_ _)); exact BK661.out⟩, ⟨by (try simp only [hl654000_64]); (try simp only [hl654001_64]); (with_reducible repeat (first | refine blk_drewN ?_ _ | refine blk_drew ?_ | refine blk_alloc ?_ _)); exact BK691.out⟩, ⟨zB⟩⟩
           case rest =>
            clear HC109
            try clear c1
            try clear c2
            try clear p2
            try clear c3
            try clear c4
            try clear c4b0
            try clear c5
            try clear c6
            try clear c7
            try clear c8
            try clear c9
            try clear c10
            try clear c11
            try clear c12
            try clear c13
            try clear c14
            try clear c15
            try clear c18
            try clear c19
            try clear c23
            try clear c26
            try clear c27
            try clear c28
            try clear c30
            try clear c31
            try clear c37
            try clear c38
            try clear c39
            try clear c43
            try clear c44
            try clear c45
            try clear c46
            try clear c48
            try clear c49
            try clear c52
            try clear c53
            try clear c54
            try clear c56
            try clear c57
            try clear c60
            try clear c63
            try clear c71
            try clear c72
            try clear c73
            try clear c76
            try clear c76b0
            try clear c78
            try clear c79
            try clear c80
            try clear c81
            try clear c83
            try clear c84
            try clear c87
            try clear c88
            try clear c89
            try clear c91
            try clear c92
            try clear c95
            try clear c98
            try clear c98b0
            try clear c99
            try clear c100
            try clear c101
            try clear c106
            try clear c106b0
            try clear c106b1
            try clear c110
            try clear c111
            try clear c112
            try clear c117
            try clear c118
            try clear c126
            try clear c127
            try clear c128
            try clear c129
            try clear c133
            try clear c134
            try clear c135
            try clear c136
            try clear c137
            try clear c139
            try clear c140
            try clear c141
            try clear c144
            try clear c145
            try clear c146
            try clear c147
            try clear c149
            try clear c150
            try clear c151
            try clear hcz102_0
            try clear hcz102_1
            try clear hcz104_0
            try clear hcz104_1
            try clear hcz113_0
            try clear hcz113_1
            try clear hcz115_0
            try clear hcz115_1
            try clear hcz119_0
            try clear hcz119_1
            try clear hcz130_0
            try clear hcz130_1
            try clear hcz138_0
            try clear hcz138_1
            try clear hcz142_0
            try clear hcz142_1
            try clear hcz148_0
            try clear hcz148_1
            try clear hcz14_0
            try clear hcz14_1
            try clear hcz152_0
            try clear hcz152_1
            try clear hcz16_0
            try clear hcz16_1
            try clear hcz24_0
            try clear hcz24_1
            try clear hcz26_0
            try clear hcz26_1
            try clear hcz32_0
            try clear hcz32_1
            try clear hcz40_0
            try clear hcz40_1
            try clear hcz47_0
            try clear hcz47_1
            try clear hcz50_0
            try clear hcz50_1
            try clear hcz55_0
            try clear hcz55_1
            try clear hcz58_0
            try clear hcz58_1
            try clear hcz6_0
            try clear hcz6_1
            try clear hcz74_0
            try clear hcz74_1
            try clear hcz82_0
            try clear hcz82_1
            try clear hcz85_0
            try clear hcz85_1
            try clear hcz90_0
            try clear hcz90_1
            try clear hcz93_0
            try clear hcz93_1
            try clear hfz102_0
            try clear hfz102_1
            try clear hfz104_0
            try clear hfz104_1
            try clear hfz113_0
            try clear hfz113_1
            try clear hfz115_0
            try clear hfz115_1
            try clear hfz119_0
            try clear hfz119_1
            try clear hfz130_0
            try clear hfz130_1
            try clear hfz138_0
            try clear hfz138_1
            try clear hfz142_0
            try clear hfz142_1
            try clear hfz148_0
            try clear hfz148_1
            try clear hfz14_0
            try clear hfz14_1
            try clear hfz152_0
            try clear hfz152_1
            try clear hfz16_0
            try clear hfz16_1
            try clear hfz24_0
            try clear hfz24_1
            try clear hfz26_0
            try clear hfz26_1
            try clear hfz32_0
            try clear hfz32_1
            try clear hfz40_0
            try clear hfz40_1
            try clear hfz47_0
            try clear hfz47_1
            try clear hfz50_0
            try clear hfz50_1
            try clear hfz55_0
            try clear hfz55_1
            try clear hfz58_0
            try clear hfz58_1
            try clear hfz6_0
            try clear hfz6_1
            try clear hfz74_0
            try clear hfz74_1
            try clear hfz82_0
            try clear hfz82_1
            try clear hfz85_0
            try clear hfz85_1
            try clear hfz90_0
            try clear hfz90_1
            try clear hfz93_0
            try clear hfz93_1
            try clear p2
            obtain ⟨kq, x92_108, rfl, HA, HJ108, HO_647000, HO_647001, HO_654000, HO_654001, HO_662000, HO_662001, HO_692000, HO_692001, BK631, BK646, BK653, BK661, BK691, HB⟩ := hcut
            have hl662000_108 := (Kd.R_reads' HO_662000.out).1
            rw [hl662000_108] at HO_662000
            (try simp only [hl662000_108])
            (try simp only [hl662000_108] at BK631)
            (try simp only [hl662000_108] at BK646)
            (try simp only [hl662000_108] at BK653)
            (try simp only [hl662000_108] at BK661)
            (try simp only [hl662000_108] at BK691)
            (try simp only [hl662000_108] at HO_647000)
            (try simp only [hl662000_108] at HO_647001)
            (try simp only [hl662000_108] at HO_654000)
            (try simp only [hl662000_108] at HO_654001)
            (try simp only [hl662000_108] at HO_662001)
            (try simp only [hl662000_108] at HO_692000)
            (try simp only [hl662000_108] at HO_692001)
            have hl662001_108 := (Kd.R_reads' HO_662001.out).1
            rw [hl662001_108] at HO_662001
            (try simp only [hl662001_108])
            (try simp only [hl662001_108] at BK631)
            (try simp only [hl662001_108] at BK646)
            (try simp only [hl662001_108] at BK653)
            (try simp only [hl662001_108] at BK661)
            (try simp only [hl662001_108] at BK691)
            (try simp only [hl662001_108] at HO_647000)
            (try simp only [hl662001_108] at HO_647001)
            (try simp only [hl662001_108] at HO_654000)
            (try simp only [hl662001_108] at HO_654001)
            (try simp only [hl662001_108] at HO_662000)
            (try simp only [hl662001_108] at HO_692000)
            (try simp only [hl662001_108] at HO_692001)
            cases kq with
            | zero => exact absurd HA.out (by simp [laws_FnExactSayBeat.j2])
            | succ kj108 =>
             have H := HA.out
             clear HA
             simp only [laws_FnExactSayBeat.j2] at H
             by_cases c154 : x92_108 = true
             ·subst c154
              have H1 : (some false) = some r := by rw [if_pos rfl] at H; exact H
              clear H
              have H := H1
              clear H1
              obtain rfl := Option.some.inj H
              go_wp2
              go_ret
              exact ⟨zE, zB⟩
             ·replace c154 := Bool.eq_false_iff.mpr c154
              subst c154
              have H1 : ((laws_heldState.f kj108 t675 t676 1).bind fun t693 => (if t693 < 0 then (some false) else (if t693 = t674 then (some true) else (some false)))) = some r := by rw [if_neg (show ¬ (false = true) by decide)] at H; exact H
              clear H
              have H := H1
              clear H1
              replace H := Option.bind_eq_some_iff.mp H
              obtain ⟨t693, A1550, H⟩ := H
              replace H : (if t693 < 0 then (some false) else (if t693 = t674 then (some true) else (some false))) = some r := H
              have A155 := zm A1550
              clear A1550
              by_cases c156 : t693 < 0
              ·rw [if_pos c156] at H
               have c156b0 : decide (t693 < 0) = true := decide_eq_true c156
               clear c156
               obtain rfl := Option.some.inj H
               have hnb157 := NB661_631.out
               have hnc157 := NB631_661.out
               have hnb158 := NB661_646.out
               have hnc158 := NB646_661.out
               have hnb159 := NB661_653.out
               have hnc159 := NB653_661.out
               have hnb160 := NB661_691.out
               have hnc160 := NB691_661.out
               have hcz161_0 : wc.cell? ⟨gb661, 0, none⟩ = some (.slice Ao36 t675.length co36) := (blk_cell BK661.out 0).trans rfl
               have hcz161_1 : wc.cell? ⟨gb661, 1, none⟩ = some (.slice Ao41 t676.length co41) := (blk_cell BK661.out 1).trans rfl
               have hfz161_0 := blk_frozen BK661.out 0
               have hfz161_1 := blk_frozen BK661.out 1
               go_wp2_with (first | ((with_reducible refine gate_callee (f := 26) rfl ?_); refine zg (some 95) #[.agg #[.slice Ao36 t675.length co36, .slice Ao41 t676.length co41], .int .i64 1] Try.func26 ?_; (with_reducible refine (laws_heldState.calls kj108 _ _ t675 _ _ t676 1 t693 _ ?side1 ?side2 ?side3 ?side4 A155.out).mono ?_); (case side1 => repeat (first | exact (Kd.R_reads' HO_662000.out).2.2 | (with_reducible refine Kd.C_alloc ?_ _) | (with_reducible refine Kd.C_drewN ?_ _) | (with_reducible refine Kd.C_drew ?_))); (case side2 => exact (Kd.R_reads' HO_662000.out).2.1); (case side3 => repeat (first | exact (Kd.R_reads' HO_662001.out).2.2 | (with_reducible refine Kd.C_alloc ?_ _) | (with_reducible refine Kd.C_drewN ?_ _) | (with_reducible refine Kd.C_drew ?_))); (case side4 => exact (Kd.R_reads' HO_662001.out).2.1); rintro e w162 ⟨rfl, hb⟩; refine ⟨_, rfl, ?_⟩; replace HO_647000 := zm (Kd.R_below (zr HO_647000) hb); replace HO_647001 := zm (Kd.R_below (zr HO_647001) hb); replace HO_654000 := zm (Kd.R_below (zr HO_654000) hb); replace HO_654001 := zm (Kd.R_below (zr HO_654001) hb); replace HO_662000 := zm (Kd.R_below (zr HO_662000) hb); replace HO_662001 := zm (Kd.R_below (zr HO_662001) hb); replace HO_692000 := zm (Kd.R_below (zr HO_692000) hb); replace HO_692001 := zm (Kd.R_below (zr HO_692001) hb); replace BK631 := zm (blk_below (zb BK631) hb); replace BK646 := zm (blk_below (zb BK646) hb); replace BK653 := zm (blk_below (zb BK653) hb); replace BK661 := zm (blk_below (zb BK661) hb); replace BK691 := zm (blk_below (zb BK691) hb); replace HB := zm (below_step zB hb); clear hb))
               go_ret
               exact ⟨zE, zB⟩
              ·rw [if_neg c156] at H
               have c156b0 : decide (t693 < 0) = false := decide_eq_false c156
               clear c156
               by_cases c163 : t693 = t674
               ·rw [if_pos c163] at H
                have c163b0 : (t693 == t674) = true := beq_iff_eq.mpr c163
                have c163b1 : (t693 != t674) = false := bne_eq_false_iff_eq.mpr c163
                clear c163
                obtain rfl := Option.some.inj H
                have hnb164 := NB661_631.out
                have hnc164 := NB631_661.out
                have hnb165 := NB661_646.out
                have hnc165 := NB646_661.out
                have hnb166 := NB661_653.out
                have hnc166 := NB653_661.out
                have hnb167 := NB661_691.out
                have hnc167 := NB691_661.out
                have hcz168_0 : wc.cell? ⟨gb661, 0, none⟩ = some (.slice Ao36 t675.length co36) := (blk_cell BK661.out 0).trans rfl
                have hcz168_1 : wc.cell? ⟨gb661, 1, none⟩ = some (.slice Ao41 t676.length co41) := (blk_cell BK661.out 1).trans rfl
                have hfz168_0 := blk_frozen BK661.out 0
                have hfz168_1 := blk_frozen BK661.out 1
                go_wp2_with (first | ((with_reducible refine gate_callee (f := 26) rfl ?_); refine zg (some 95) #[.agg #[.slice Ao36 t675.length co36, .slice Ao41 t676.length co41], .int .i64 1] Try.func26 ?_; (with_reducible refine (laws_heldState.calls kj108 _ _ t675 _ _ t676 1 t693 _ ?side1 ?side2 ?side3 ?side4 A155.out).mono ?_); (case side1 => repeat (first | exact (Kd.R_reads' HO_662000.out).2.2 | (with_reducible refine Kd.C_alloc ?_ _) | (with_reducible refine Kd.C_drewN ?_ _) | (with_reducible refine Kd.C_drew ?_))); (case side2 => exact (Kd.R_reads' HO_662000.out).2.1); (case side3 => repeat (first | exact (Kd.R_reads' HO_662001.out).2.2 | (with_reducible refine Kd.C_alloc ?_ _) | (with_reducible refine Kd.C_drewN ?_ _) | (with_reducible refine Kd.C_drew ?_))); (case side4 => exact (Kd.R_reads' HO_662001.out).2.1); rintro e w169 ⟨rfl, hb⟩; refine ⟨_, rfl, ?_⟩; replace HO_647000 := zm (Kd.R_below (zr HO_647000) hb); replace HO_647001 := zm (Kd.R_below (zr HO_647001) hb); replace HO_654000 := zm (Kd.R_below (zr HO_654000) hb); replace HO_654001 := zm (Kd.R_below (zr HO_654001) hb); replace HO_662000 := zm (Kd.R_below (zr HO_662000) hb); replace HO_662001 := zm (Kd.R_below (zr HO_662001) hb); replace HO_692000 := zm (Kd.R_below (zr HO_692000) hb); replace HO_692001 := zm (Kd.R_below (zr HO_692001) hb); replace BK631 := zm (blk_below (zb BK631) hb); replace BK646 := zm (blk_below (zb BK646) hb); replace BK653 := zm (blk_below (zb BK653) hb); replace BK661 := zm (blk_below (zb BK661) hb); replace BK691 := zm (blk_below (zb BK691) hb); replace HB := zm (below_step zB hb); clear hb))
                go_ret
                exact ⟨zE, zB⟩
               ·rw [if_neg c163] at H
                have c163b0 : (t693 == t674) = false := beq_eq_false_iff_ne.mpr c163
                have c163b1 : (t693 != t674) = true := bne_iff_ne.mpr c163
                obtain rfl := Option.some.inj H
                have hnb170 := NB661_631.out
                have hnc170 := NB631_661.out
                have hnb171 := NB661_646.out
                have hnc171 := NB646_661.out
                have hnb172 := NB661_653.out
                have hnc172 := NB653_661.out
                have hnb173 := NB661_691.out
                have hnc173 := NB691_661.out
                have hcz174_0 : wc.cell? ⟨gb661, 0, none⟩ = some (.slice Ao36 t675.length co36) := (blk_cell BK661.out 0).trans rfl
                have hcz174_1 : wc.cell? ⟨gb661, 1, none⟩ = some (.slice Ao41 t676.length co41) := (blk_cell BK661.out 1).trans rfl
                have hfz174_0 := blk_frozen BK661.out 0
                have hfz174_1 := blk_frozen BK661.out 1
                go_wp2_with (first | ((with_reducible refine gate_callee (f := 26) rfl ?_); refine zg (some 95) #[.agg #[.slice Ao36 t675.length co36, .slice Ao41 t676.length co41], .int .i64 1] Try.func26 ?_; (with_reducible refine (laws_heldState.calls kj108 _ _ t675 _ _ t676 1 t693 _ ?side1 ?side2 ?side3 ?side4 A155.out).mono ?_); (case side1 => repeat (first | exact (Kd.R_reads' HO_662000.out).2.2 | (with_reducible refine Kd.C_alloc ?_ _) | (with_reducible refine Kd.C_drewN ?_ _) | (with_reducible refine Kd.C_drew ?_))); (case side2 => exact (Kd.R_reads' HO_662000.out).2.1); (case side3 => repeat (first | exact (Kd.R_reads' HO_662001.out).2.2 | (with_reducible refine Kd.C_alloc ?_ _) | (with_reducible refine Kd.C_drewN ?_ _) | (with_reducible refine Kd.C_drew ?_))); (case side4 => exact (Kd.R_reads' HO_662001.out).2.1); rintro e w175 ⟨rfl, hb⟩; refine ⟨_, rfl, ?_⟩; replace HO_647000 := zm (Kd.R_below (zr HO_647000) hb); replace HO_647001 := zm (Kd.R_below (zr HO_647001) hb); replace HO_654000 := zm (Kd.R_below (zr HO_654000) hb); replace HO_654001 := zm (Kd.R_below (zr HO_654001) hb); replace HO_662000 := zm (Kd.R_below (zr HO_662000) hb); replace HO_662001 := zm (Kd.R_below (zr HO_662001) hb); replace HO_692000 := zm (Kd.R_below (zr HO_692000) hb); replace HO_692001 := zm (Kd.R_below (zr HO_692001) hb); replace BK631 := zm (blk_below (zb BK631) hb); replace BK646 := zm (blk_below (zb BK646) hb); replace BK653 := zm (blk_below (zb BK653) hb); replace BK661 := zm (blk_below (zb BK661) hb); replace BK691 := zm (blk_below (zb BK691) hb); replace HB := zm (below_step zB hb); clear hb))
                go_ret
                exact ⟨zE, zB⟩
          ·rw [if_neg c106] at H
           have c106b0 : (t677 == t674) = false := beq_eq_false_iff_ne.mpr c106
           have c106b1 : (t677 != t674) = true := bne_iff_ne.mpr c106
           obtain rfl := Option.some.inj H
           have hnb176 := NB661_631.out
           have hnc176 := NB631_661.out
           have hnb177 := NB661_646.out
           have hnc177 := NB646_661.out
           have hnb178 := NB661_653.out
           have hnc178 := NB653_661.out
           have hcz179_0 : wc.cell? ⟨gb661, 0, none⟩ = some (.slice Ao36 t654.length co36) := (blk_cell BK661.out 0).trans rfl
           have hcz179_1 : wc.cell? ⟨gb661, 1, none⟩ = some (.slice Ao41 t657.length co41) := (blk_cell BK661.out 1).trans rfl
           have hfz179_0 := blk_frozen BK661.out 0
           have hfz179_1 := blk_frozen BK661.out 1
           go_wp2_with (first | ((with_reducible refine gate_callee (f := 19) rfl ?_); refine zg (some 68) #[.agg #[.slice Ao36 t654.length co36, .slice Ao41 t657.length co41], .int .i64 1] Try.func19 ?_; (with_reducible refine (laws_markState.calls kj64 (fun k_ => some k_ = (.slice Ao36 t654.length co36 : Value).ownBlock) (.slice Ao36 t654.length co36) t654 (fun k_ => some k_ = (.slice Ao41 t657.length co41 : Value).ownBlock) (.slice Ao41 t657.length co41) t657 1 t674 t675 t676 w _ zB ?side2 ?side3 A96.out).mono ?_); (case side2 => exact Kd.R_tight rfl HO_662000.out); (case side3 => exact Kd.R_tight rfl HO_662001.out); rintro e w180 ⟨rfl, hy0, hy1, hb, hkp⟩; refine ⟨_, rfl, ?_⟩; replace HO_647000 := zm (Kd.R_mono (ok' := fun k_ => some k_ ≠ (.slice Ao29 t671.length co29 : Value).ownBlock ∧ some k_ ≠ (.slice Ao36 t654.length co36 : Value).ownBlock) (Kd.R_keptB ((Kd.R_apart' HO_647000.out (Kd.R_typed HO_662001.out) (by decide))) hkp (fun k_ hk_ hs_ => Or.elim hs_ (fun e_ => (hk_.1.2) e_) (fun e_ => (hk_.2) e_))) (fun k_ hk_ => ⟨hk_.1.1.1, hk_.1.1.2⟩)); replace HO_647001 := zm (Kd.R_mono (ok' := fun k_ => some k_ ≠ (.slice Ao33 t672.length co33 : Value).ownBlock ∧ some k_ ≠ (.slice Ao41 t657.length co41 : Value).ownBlock) (Kd.R_keptB ((Kd.R_apart' HO_647001.out (Kd.R_typed HO_662000.out) (by decide))) hkp (fun k_ hk_ hs_ => Or.elim hs_ (fun e_ => (hk_.2) e_) (fun e_ => (hk_.1.2) e_))) (fun k_ hk_ => ⟨hk_.1.1.1, hk_.1.1.2⟩)); replace HO_654000 := zm (Kd.R_mono (ok' := fun k_ => some k_ ≠ (.slice Ao22 t639.length co22 : Value).ownBlock ∧ some k_ ≠ (.slice Ao36 t654.length co36 : Value).ownBlock) (Kd.R_keptB ((Kd.R_apart' HO_654000.out (Kd.R_typed HO_662001.out) (by decide))) hkp (fun k_ hk_ hs_ => Or.elim hs_ (fun e_ => (hk_.1.2) e_) (fun e_ => (hk_.2) e_))) (fun k_ hk_ => ⟨hk_.1.1.1, hk_.1.1.2⟩)); replace HO_654001 := zm (Kd.R_mono (ok' := fun k_ => some k_ ≠ (.slice Ao25 t642.length co25 : Value).ownBlock ∧ some k_ ≠ (.slice Ao41 t657.length co41 : Value).ownBlock) (Kd.R_keptB ((Kd.R_apart' HO_654001.out (Kd.R_typed HO_662000.out) (by decide))) hkp (fun k_ hk_ hs_ => Or.elim hs_ (fun e_ => (hk_.2) e_) (fun e_ => (hk_.1.2) e_))) (fun k_ hk_ => ⟨hk_.1.1.1, hk_.1.1.2⟩)); replace BK631 := zm (blk_kept (zb BK631) hkp (fun hs_ => Or.elim hs_ (fun e_ => (fun e_ => (Kd.R_ne HO_662000.out BK631.out (by decide)) e_) e_) (fun e_ => (fun e_ => (Kd.R_ne HO_662001.out BK631.out (by decide)) e_) e_))); replace BK646 := zm (blk_kept (zb BK646) hkp (fun hs_ => Or.elim hs_ (fun e_ => (fun e_ => (Kd.R_ne HO_662000.out BK646.out (by decide)) e_) e_) (fun e_ => (fun e_ => (Kd.R_ne HO_662001.out BK646.out (by decide)) e_) e_))); replace BK653 := zm (blk_kept (zb BK653) hkp (fun hs_ => Or.elim hs_ (fun e_ => (fun e_ => (Kd.R_ne HO_662000.out BK653.out (by decide)) e_) e_) (fun e_ => (fun e_ => (Kd.R_ne HO_662001.out BK653.out (by decide)) e_) e_))); replace BK661 := zm (blk_kept (zb BK661) hkp (fun hs_ => Or.elim hs_ (fun e_ => (fun e_ => (Kd.R_ne HO_662000.out BK661.out (by decide)) e_) e_) (fun e_ => (fun e_ => (Kd.R_ne HO_662001.out BK661.out (by decide)) e_) e_))); replace HO_662000 := zm (Kd.R_reok rfl hy0 (fun k_ e_ => HO_662000.out.1 k_ e_)); replace HO_662001 := zm (Kd.R_reok rfl hy1 (fun k_ e_ => HO_662001.out.1 k_ e_)); replace HB := zm (hb); clear hb hkp hy0; (try clear hy1); have hcz181_0 : w180.cell? ⟨gb661, 0, none⟩ = some (.slice Ao36 t654.length co36) := (blk_cell BK661.out 0).trans rfl; have hcz181_1 : w180.cell? ⟨gb661, 1, none⟩ = some (.slice Ao41 t657.length co41) := (blk_cell BK661.out 1).trans rfl; have hfz181_0 := blk_frozen BK661.out 0; have hfz181_1 := blk_frozen BK661.out 1) | ((with_reducible refine gate_callee (f := 26) rfl ?_); refine goesL_ (some 71) rfl rfl Try.func26 (by kernel_rfl) rfl #[.agg #[.slice Ao36 t675.length co36, .slice Ao41 t676.length co41], .int .i64 1] rfl (by (try simp only [List.map_toArray, List.map_cons, List.map_nil]); first | done | (rw [show t675.length = t654.length from (Kd.R_reads' HO_662000.out).1.symm, show t676.length = t657.length from (Kd.R_reads' HO_662001.out).1.symm] <;> rfl) | rfl | (simp only [List.length_drop, List.length_take]; rfl)) ?_; (with_reducible refine (laws_heldState.calls kj64 _ _ t675 _ _ t676 1 t677 _ ?side1 ?side2 ?side3 ?side4 A97.out).mono ?_); (case side1 => repeat (first | exact (Kd.R_reads' HO_662000.out).2.2 | (with_reducible refine Kd.C_alloc ?_ _) | (with_reducible refine Kd.C_drewN ?_ _) | (with_reducible refine Kd.C_drew ?_))); (case side2 => rw [show t675.length = t654.length from (Kd.R_reads' HO_662000.out).1.symm]; exact (Kd.R_reads' HO_662000.out).2.1); (case side3 => repeat (first | exact (Kd.R_reads' HO_662001.out).2.2 | (with_reducible refine Kd.C_alloc ?_ _) | (with_reducible refine Kd.C_drewN ?_ _) | (with_reducible refine Kd.C_drew ?_))); (case side4 => rw [show t676.length = t657.length from (Kd.R_reads' HO_662001.out).1.symm]; exact (Kd.R_reads' HO_662001.out).2.1); rintro e w182 ⟨rfl, hb⟩; refine ⟨_, rfl, ?_⟩; replace HO_647000 := zm (Kd.R_below (zr HO_647000) hb); replace HO_647001 := zm (Kd.R_below (zr HO_647001) hb); replace HO_654000 := zm (Kd.R_below (zr HO_654000) hb); replace HO_654001 := zm (Kd.R_below (zr HO_654001) hb); replace HO_662000 := zm (Kd.R_below (zr HO_662000) hb); replace HO_662001 := zm (Kd.R_below (zr HO_662001) hb); replace BK631 := zm (blk_below (zb BK631) hb); replace BK646 := zm (blk_below (zb BK646) hb); replace BK653 := zm (blk_below (zb BK653) hb); replace BK661 := zm (blk_below (zb BK661) hb); replace HB := zm (below_step zB hb); clear hb))
           go_ret
           exact ⟨zE, zB⟩
     ·replace c63 := Bool.eq_false_iff.mpr c63
      subst c63
      have H1 : (some false) = some r := by rw [if_neg (show ¬ (false = true) by decide)] at H; exact H
      clear H
      have H := H1
      clear H1
      obtain rfl := Option.some.inj H
      try go_wp2
      replace HO_647000 := zm (Kd.R_drew HO_647000.out)
      replace HO_647001 := zm (Kd.R_drew HO_647001.out)
      replace HO_654000 := zm (Kd.R_drew HO_654000.out)
      replace HO_654001 := zm (Kd.R_drew HO_654001.out)
      replace HO_662000 := zm (Kd.R_drew HO_662000.out)
      replace HO_662001 := zm (Kd.R_drew HO_662001.out)
      replace BK631 := zm (blk_drew BK631.out)
      replace BK646 := zm (blk_drew BK646.out)
      replace BK653 := zm (blk_drew BK653.out)
      replace BK661 := zm (blk_drew BK661.out)
      replace HB := zm (below_drew1 HB.out)
      refine start_ (n := 5) (S := fun w' => w'.cell? ⟨gb653, 0, none⟩ = some (.slice Ao29 t647.length co29) ∧ w'.cell? ⟨gb653, 1, none⟩ = some (.slice Ao33 t650.length co33) ∧ w'.cell? ⟨gb631, 0, none⟩ = some (.slice A0_0 l0_0.length c0_0) ∧ w'.cell? ⟨gb631, 1, none⟩ = some (.slice A0_1 l0_1.length c0_1)) (ds := []) (zl 5 0) (by kernel_rfl) rfl rfl ⟨(blk_cell BK653.out 0).trans rfl, (blk_cell BK653.out 1).trans rfl, (blk_cell BK631.out 0).trans rfl, (blk_cell BK631.out 1).trans rfl⟩ (fun hHeld => ?_)
      generalize wc.drew = w183 at HO_647000 HO_647001 HO_654000 HO_654001 HO_662000 HO_662001 BK631 BK646 BK653 BK661 HB hHeld ⊢
      refine zt 0 (some 45) (zl 5 1) ?_
      refine zt 1 (some 46) (zl 5 3) ?_
      refine zo 2 (some 47) (zl 5 7) (fun K hK => ?_)
      refine zgo #[.agg #[.slice A0_0 l0_0.length c0_0, .slice A0_1 l0_1.length c0_1]] Try.func15 ?_
      with_reducible refine (laws_toState.calls kj11 _ _ l0_0 _ _ l0_1 t663 t666 _ (zk (Kd.C_below HR0_0.out HB.out)) HC0_0.out (zk (Kd.C_below HR0_1.out HB.out)) HC0_1.out A61.out).mono ?_
      rintro e w184 ⟨v664, v667, rfl, ho0, ho1, hb⟩
      refine ⟨_, rfl, ?_⟩
      have HO665 := zm (Kd.R_lower (Kd.R_new' (Kd.R_new' (Kd.R_new' ho0 (Kd.R_lt (zr HO_647000))) (Kd.R_lt (zr HO_654000))) (Kd.R_lt (zr HO_662000))) (below_size zB))
      replace HO_647000 := zm (Kd.R_elder' (zr HO_647000) (Kd.R_base ho0) hb)
      replace HO_654000 := zm (Kd.R_elder' (zr HO_654000) (Kd.R_base ho0) hb)
      replace HO_662000 := zm (Kd.R_elder' (zr HO_662000) (Kd.R_base ho0) hb)
      have HO668 := zm (Kd.R_lower (Kd.R_new' (Kd.R_new' (Kd.R_new' ho1 (Kd.R_lt (zr HO_647001))) (Kd.R_lt (zr HO_654001))) (Kd.R_lt (zr HO_662001))) (below_size zB))
      replace HO_647001 := zm (Kd.R_elder' (zr HO_647001) (Kd.R_base ho1) hb)
      replace HO_654001 := zm (Kd.R_elder' (zr HO_654001) (Kd.R_base ho1) hb)
      replace HO_662001 := zm (Kd.R_elder' (zr HO_662001) (Kd.R_base ho1) hb)
      replace BK631 := zm (blk_below (zb BK631) hb)
      replace BK646 := zm (blk_below (zb BK646) hb)
      replace BK653 := zm (blk_below (zb BK653) hb)
      replace BK661 := zm (blk_below (zb BK661) hb)
      replace HB := zm (below_step zB hb)
      (try clear hb)
      (try clear hb2)
      (try clear hk)
      (try clear hi)
      (try clear ho0)
      (try clear ho1)
      obtain ⟨Ao185, co185, eo185⟩ := Kd.R_slice HO665.out
      (first | subst eo185 | (injection eo185 with f1_ f2_ f3_; have f4_ := f1_.symm; have f5_ := f3_.symm; clear f1_ f2_ f3_; subst f4_; subst f5_))
      obtain ⟨Ao186, co186, eo186⟩ := Kd.R_slice HO668.out
      (first | subst eo186 | (injection eo186 with f1_ f2_ f3_; have f4_ := f1_.symm; have f5_ := f3_.symm; clear f1_ f2_ f3_; subst f4_; subst f5_))
      refine hK.out _ _ ⟨(blk_cell BK653.out 0).trans rfl, (blk_cell BK653.out 1).trans rfl, (blk_cell BK631.out 0).trans rfl, (blk_cell BK631.out 1).trans rfl⟩ (fun hHeld => ?_)
      clear hK K
      refine zn ?_
      refine zo 3 (some 48) (zl 5 15) (fun K hK => ?_)
      refine zgo #[.agg #[.slice Ao29 t647.length co29, .slice Ao33 t650.length co33], .agg #[.slice Ao185 t663.length co185, .slice Ao186 t666.length co186]] Try.func18 ?_
      with_reducible refine (laws_eqState.calls kj11 _ _ t647 _ _ t650 _ _ t663 _ _ t666 false _ ?side1 ?side2 ?side3 ?side4 ?side5 ?side6 ?side7 ?side8 A62.out).mono ?_
      (case side1 => repeat (first | exact (Kd.R_reads' HO_654000.out).2.2 | (with_reducible refine Kd.C_alloc ?_ _) | (with_reducible refine Kd.C_drewN ?_ _) | (with_reducible refine Kd.C_drew ?_)))
      (case side2 => exact (Kd.R_reads' HO_654000.out).2.1)
      (case side3 => repeat (first | exact (Kd.R_reads' HO_654001.out).2.2 | (with_reducible refine Kd.C_alloc ?_ _) | (with_reducible refine Kd.C_drewN ?_ _) | (with_reducible refine Kd.C_drew ?_)))
      (case side4 => exact (Kd.R_reads' HO_654001.out).2.1)
      (case side5 => repeat (first | exact (Kd.R_reads' HO665.out).2.2 | (with_reducible refine Kd.C_alloc ?_ _) | (with_reducible refine Kd.C_drewN ?_ _) | (with_reducible refine Kd.C_drew ?_)))
      (case side6 => exact (Kd.R_reads' HO665.out).2.1)
      (case side7 => repeat (first | exact (Kd.R_reads' HO668.out).2.2 | (with_reducible refine Kd.C_alloc ?_ _) | (with_reducible refine Kd.C_drewN ?_ _) | (with_reducible refine Kd.C_drew ?_)))
      (case side8 => exact (Kd.R_reads' HO668.out).2.1)
      rintro e w187 ⟨rfl, hb⟩
      refine ⟨_, rfl, ?_⟩
      replace HO_647000 := zm (Kd.R_below (zr HO_647000) hb)
      replace HO_647001 := zm (Kd.R_below (zr HO_647001) hb)
      replace HO_654000 := zm (Kd.R_below (zr HO_654000) hb)
      replace HO_654001 := zm (Kd.R_below (zr HO_654001) hb)
      replace HO_662000 := zm (Kd.R_below (zr HO_662000) hb)
      replace HO_662001 := zm (Kd.R_below (zr HO_662001) hb)
      replace HO665 := zm (Kd.R_below (zr HO665) hb)
      replace HO668 := zm (Kd.R_below (zr HO668) hb)
      replace BK631 := zm (blk_below (zb BK631) hb)
      replace BK646 := zm (blk_below (zb BK646) hb)
      replace BK653 := zm (blk_below (zb BK653) hb)
      replace BK661 := zm (blk_below (zb BK661) hb)
      replace HB := zm (below_step zB hb)
      (try clear hb)
      (try clear hb2)
      (try clear hk)
      (try clear hi)
      refine hK.out _ _ ⟨(blk_cell BK653.out 0).trans rfl, (blk_cell BK653.out 1).trans rfl, (blk_cell BK631.out 0).trans rfl, (blk_cell BK631.out 1).trans rfl⟩ (fun hHeld => ?_)
      clear hK K
      refine zn ?_
      refine zp 4 (some 49) (zl 5 31) ?_
      refine done_ (by kernel_rfl) ?_
      try go_wp2
      go_ret
      exact ⟨zE, zB⟩

def laws_FnExactSayBeat.Pure : Prop := ∀ (l0_0 : List (S94)) (l0_1 : List (S98)) (a1 : Int), l0_0.length ≤ maxLen → l0_0.length * 56 ≤ 140737488351232 → (∀ x ∈ l0_0, ((Lit.int .i64 x.f0).wf = true ∧ ((Lit.int .i64 x.f1.f0).wf = true ∧ ((Lit.int .i64 x.f1.f1).wf = true ∧ ((Lit.int .i64 x.f1.f2).wf = true ∧ ((Lit.int .i64 x.f1.f3).wf = true ∧ x.f1.f4.size ≤ 140737488351232)))))) → l0_1.length ≤ maxLen → l0_1.length * 16 ≤ 140737488351232 → (∀ x ∈ l0_1, ((Lit.int .i64 x.f0).wf = true ∧ (Lit.int .i64 x.f1).wf = true)) → (Lit.int .i64 a1).wf = true → ∃ k, laws_FnExactSayBeat.f k l0_0 l0_1 a1 = some true

end Go.Proofs.Ytgapdegniepjiaa.P
